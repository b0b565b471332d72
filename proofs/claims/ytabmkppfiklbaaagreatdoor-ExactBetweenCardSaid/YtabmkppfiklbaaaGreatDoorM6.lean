/-
  A part of the proof of the statements of this seat (texts that the law's own text leans on): no condition.
-/
import Derived.Test.YtabmkppfiklbaaaGreatDoorM5
import Derived.Test.YtabmkppfiklbaaaGreatDoorM4
import Derived.Test.YtabmkppfiklbaaaGreatDoorM3
set_option linter.unusedVariables false
set_option linter.unusedSimpArgs false
namespace Go.Cv
def sW (F : Fm) (md : Int) (neg : Bool) (Q : Nat) (more : Bool) (E : Int) : Nat × Nat :=
  wordOf F md neg (rdN md neg Q more (F.eOf (E + blen Q) - E).toNat).1 (rdN md neg Q more (F.eOf (E + blen Q) - E).toNat).2 (F.eOf (E + blen Q)) (E + blen Q) (rdN md neg Q more (blen Q - F.fr - 1)).1
theorem partW_sW (F : Fm) (md : Int) (neg : Bool) {w : Nat} (more : Bool) (top : Int) (hw : blen w = 64) : partW F md neg w more top = sW F md neg w more (top - 64) := by
  unfold partW sW
  have h1 : top - 64 + (blen w : Int) = top := by omega
  rw [h1, show F.eOf top - top + 64 = F.eOf top - (top - 64) by omega, show blen w - F.fr - 1 = 63 - F.fr by omega]
theorem sW_shift (F : Fm) (md : Int) (neg : Bool) {Q j : Nat} (more : Bool) (E : Int) (h : F.fr + 2 + j ≤ blen Q) :
    sW F md neg (Q / 2 ^ j) (more || decide (Q % 2 ^ j ≠ 0)) (E + j) = sW F md neg Q more E := by
  unfold sW
  have hb : (blen (Q / 2 ^ j) : Int) = blen Q - j := by rw [blen_div]; omega
  have hb' : blen (Q / 2 ^ j) = blen Q - j := by omega
  have e1 : E + j + (blen (Q / 2 ^ j) : Int) = E + blen Q := by omega
  have hE : E + (blen Q : Int) - F.fr - 1 ≤ F.eOf (E + blen Q) := by unfold Fm.eOf; omega
  have r1 := rdN_shift md neg Q more j (F.eOf (E + blen Q) - (E + j)).toNat (by omega)
  have r2 := rdN_shift md neg Q more j (blen Q - j - F.fr - 1) (by omega)
  rw [show j + (F.eOf (E + blen Q) - (E + j)).toNat = (F.eOf (E + blen Q) - E).toNat by omega] at r1
  rw [show j + (blen Q - j - F.fr - 1) = blen Q - F.fr - 1 by omega] at r2
  rw [e1, hb', r1, r2]
theorem headN_mul {M : Nat} (h : M ≠ 0) (t : Nat) : headN (M * 2 ^ t) = headN M ∧ behindN (M * 2 ^ t) = behindN M := by
  unfold headN behindN
  rw [blen_mul h]
  by_cases h1 : blen M ≤ 64
  · by_cases h2 : blen M + t ≤ 64
    · rw [if_pos h1, if_pos h2, if_pos h1, if_pos h2, Nat.mul_assoc, ← Nat.pow_add, show t + (64 - (blen M + t)) = 64 - blen M by omega]
      exact ⟨rfl, rfl⟩
    · rw [if_pos h1, if_neg h2, if_pos h1, if_neg h2]
      rw [div_pow_mul (by omega), mod_pow_mul (by omega), show t - (blen M + t - 64) = 64 - blen M by omega]
      exact ⟨rfl, rfl⟩
  · rw [if_neg h1, if_neg (by omega), if_neg h1, if_neg (by omega)]
    rw [div_pow_mul2 (by omega), mod_pow_mul2 (by omega), show blen M + t - 64 - t = blen M - 64 by omega]
    have hp := Nat.two_pow_pos t
    refine ⟨rfl, decide_eq_decide.2 ?_⟩
    constructor
    · intro h3 h4; exact h3 (by rw [h4, Nat.zero_mul])
    · intro h3 h4
      rcases Nat.mul_eq_zero.1 h4 with h5 | h5
      · exact h3 h5
      · omega
theorem sW_head (F : Fm) (md : Int) (neg : Bool) {M : Nat} (E : Int) (h : F.fr + 2 ≤ blen M) : sW F md neg (headN M) (behindN M) (E + blen M - 64) = sW F md neg M false E := by
  have hF := fm_facts F
  unfold headN behindN
  by_cases h1 : blen M ≤ 64
  · rw [if_pos h1, if_pos h1]
    have hm : M ≠ 0 := by rintro rfl; rw [blen_zero] at h; omega
    have := sW_shift F md neg (Q := M * 2 ^ (64 - blen M)) (j := 64 - blen M) false (E + blen M - 64) (by rw [blen_mul hm]; omega)
    rw [Nat.mul_div_cancel _ (Nat.two_pow_pos _), Nat.mul_mod_left, show E + (blen M : Int) - 64 + ((64 - blen M : Nat) : Int) = E by omega] at this
    rw [← this]; rfl
  · rw [if_neg h1, if_neg h1]
    have := sW_shift F md neg (Q := M) (j := blen M - 64) false E (by omega)
    rw [← this, Bool.false_or, show E + ((blen M - 64 : Nat) : Int) = E + blen M - 64 by omega]
theorem rndW_mk (F : Fm) (md : Int) (neg : Bool) {M : Nat} (E : Int) (h : F.fr + 2 ≤ blen M) : rndW F md (mkD neg M E) = sW F md neg M false E := by
  have hm : M ≠ 0 := by rintro rfl; rw [blen_zero] at h; omega
  have t1 := (tz_spec hm).1
  have hb := blen_div M (tz M)
  have hz := tz_blen hm
  have hm' : M / 2 ^ tz M ≠ 0 := by intro hc; rw [hc, blen_zero] at hb; omega
  have h1 := partW_eq F md (d := mkD neg M E) (by rw [mkD_pos hm]; exact hm')
  rw [← h1, mkD_pos hm]
  simp only
  obtain ⟨e1, e2⟩ := headN_mul hm' (tz M)
  rw [← t1] at e1 e2
  rw [← e1, ← e2, partW_sW _ _ _ _ _ (headN_blen hm), show E + (tz M : Int) + (blen (M / 2 ^ tz M) : Int) - 64 = E + blen M - 64 by omega, sW_head F md neg E h]
theorem sW_beyond (F : Fm) (md : Int) (neg : Bool) {M j : Nat} (E : Int) (hj : 0 < j) (h : F.fr + 2 ≤ blen M) : sW F md neg (M * 2 ^ j + 1) false (E - j) = sW F md neg M true E := by
  have hm : M ≠ 0 := by rintro rfl; rw [blen_zero] at h; omega
  have hp : 1 < 2 ^ j := Nat.one_lt_two_pow (by omega)
  have d1 : (M * 2 ^ j + 1) / 2 ^ j = M := by
    rw [Nat.mul_comm, Nat.mul_add_div (by omega), Nat.div_eq_of_lt hp, Nat.add_zero]
  have d2 : (M * 2 ^ j + 1) % 2 ^ j = 1 := by
    rw [Nat.mul_comm, Nat.mul_add_mod, Nat.mod_eq_of_lt hp]
  have hb := blen_div (M * 2 ^ j + 1) j
  rw [d1] at hb
  have := sW_shift F md neg (Q := M * 2 ^ j + 1) (j := j) false (E - j) (by omega)
  rw [d1, d2, show E - (j : Int) + j = E by omega] at this
  rw [← this]; rfl
theorem sW_quo (F : Fm) (md : Int) (neg : Bool) {a b N j : Nat} (E : Int) (hb : b ≠ 0) (h : F.fr + 2 ≤ blen (a * 2 ^ N / b)) :
    sW F md neg (a * 2 ^ (N + j) / b) (!decide (a * 2 ^ (N + j) % b = 0)) (E - j) = sW F md neg (a * 2 ^ N / b) (!decide (a * 2 ^ N % b = 0)) E := by
  have hp := Nat.two_pow_pos j
  have e0 : a * 2 ^ (N + j) = a * 2 ^ N * 2 ^ j := by rw [Nat.pow_add, Nat.mul_assoc]
  rw [e0]
  generalize a * 2 ^ N = A at *
  have e1 : A * 2 ^ j / b / 2 ^ j = A / b := by rw [Nat.div_div_eq_div_mul, Nat.mul_div_mul_right _ _ hp]
  have hbl := blen_div (A * 2 ^ j / b) j
  rw [e1] at hbl
  have h2 := sW_shift F md neg (Q := A * 2 ^ j / b) (j := j) (!decide (A * 2 ^ j % b = 0)) (E - j) (by omega)
  rw [e1, show E - (j : Int) + j = E by omega] at h2
  rw [← h2]
  congr 1
  have e3 : A * 2 ^ j % (b * 2 ^ j) = A % b * 2 ^ j := Nat.mul_mod_mul_right ..
  rw [Nat.mod_mul] at e3
  have key : A % b = 0 ↔ (A * 2 ^ j % b = 0 ∧ A * 2 ^ j / b % 2 ^ j = 0) := by
    constructor
    · intro h3
      rw [h3, Nat.zero_mul] at e3
      have h4 : A * 2 ^ j % b = 0 := by omega
      rw [h4, Nat.zero_add] at e3
      refine ⟨h4, ?_⟩
      rcases Nat.mul_eq_zero.1 e3 with h5 | h5
      · exact absurd h5 hb
      · exact h5
    · rintro ⟨h3, h4⟩
      rw [h3, h4, Nat.mul_zero, Nat.add_zero] at e3
      rcases Nat.mul_eq_zero.1 e3.symm with h5 | h5
      · exact h5
      · omega
  rw [Bool.eq_iff_iff]
  simp only [Bool.or_eq_true, Bool.not_eq_true', decide_eq_true_eq, decide_eq_false_iff_not, ne_eq, key]
  by_cases h5 : A * 2 ^ j % b = 0 <;> by_cases h6 : A * 2 ^ j / b % 2 ^ j = 0 <;> simp [h5, h6]
end Go.Cv
namespace Go.Cv
variable {G : Nat → Option (List AV)} {T : Tbl} {g : Nat}
def quoW (F : Fm) (md : Int) (a b : Dy) : Nat × Nat :=
  sW F md (a.n != b.n) (a.m * 2 ^ quoN 64 a.m b.m / b.m) (!decide (a.m * 2 ^ quoN 64 a.m b.m % b.m = 0)) (a.e - b.e - (quoN 64 a.m b.m : Nat))
theorem or_ne (o1 o2 : Bool) : (!o1 || !o2) = (!o2 || !o1) := by cases o1 <;> cases o2 <;> rfl
theorem head64 {w : Nat} (h : blen w = 64) : headN w = w ∧ behindN w = false := by
  unfold headN behindN
  rw [if_pos (by omega), if_pos (by omega), h]
  exact ⟨Nat.mul_one w, rfl⟩
theorem mk_head {n : Bool} {w : Nat} {e : Int} (h : blen w = 64) : headN (mkD n w e).m = w ∧ behindN (mkD n w e).m = false ∧ (mkD n w e).e + (blen (mkD n w e).m : Int) = e + 64 ∧ (mkD n w e).m ≠ 0 ∧ (mkD n w e).n = n := by
  have h0 : w ≠ 0 := by rintro rfl; rw [blen_zero] at h; omega
  have t1 := (tz_spec h0).1
  have hb := blen_div w (tz w)
  have hz := tz_blen h0
  have hm' : w / 2 ^ tz w ≠ 0 := by intro hc; rw [hc, blen_zero] at hb; omega
  obtain ⟨e1, e2⟩ := headN_mul hm' (tz w)
  rw [← t1] at e1 e2
  rw [mkD_pos h0]
  simp only
  rw [← e1, ← e2]
  exact ⟨(head64 h).1, (head64 h).2, by omega, hm', by trivial⟩
theorem fm_fr (F : Fm) : F.fr + 2 ≤ 54 := by cases F <;> decide
theorem round_Quo (J : Al G T g) (F : Fm) {m : Int} (hm : 1 ≤ m ∧ m ≤ 5) {z y : Bool} {a b : Dy} (da : mayD a.n (dl a.m) a.e = true) (db : mayD b.n (dl b.m) b.e = true)
    (ha : a.m ≠ 0) (hb : b.m ≠ 0) (hw : quoN 64 a.m b.m + blen a.m ≤ 131072) :
    run G T 15 [.int .u8 F.u, .int .u8 m, DyA z a, DyA y b] = some (.tup [.int .u64 ((quoW F m a b).1 : Int), .int .u8 ((quoW F m a b).2 : Int), .int .i64 0]) := by
  rw [run_k G T J.E.round_Quo]
  obtain ⟨f1, f2, f3, f4, f5⟩ := mayD_facts da
  obtain ⟨g1, g2, g3, g4, g5⟩ := mayD_facts db
  have o1 := round_open2 J F hm (n := a.n) (z := z) (n' := b.n) (z' := y) (Dg_dl a.m) (Dg_dl b.m) (e := a.e) (e' := b.e)
  rw [da, db, Bool.and_self, if_pos rfl] at o1
  have s1 := dyad_Sign J (n := a.n) (z := z) (Dg_dl a.m) (e := a.e)
  rw [sign_may da, if_neg ha] at s1
  have s2 := dyad_Sign J (n := b.n) (z := y) (Dg_dl b.m) (e := b.e)
  rw [sign_may db, if_neg hb] at s2
  have bound : ∀ {n : Bool} {m : Nat} {e : Int}, mayD n (dl m) e = true → m ≠ 0 → mayD false (dl m) 0 = true := by
    intro n m e hx hx0
    have h1 : ¬ (dl m).length = 0 := by rw [dl_len0]; exact hx0
    simp only [mayD] at hx ⊢
    rw [if_neg h1] at hx ⊢
    simp only [Bool.and_eq_true, decide_eq_true_eq] at hx ⊢
    exact ⟨hx.1, hx.2.1, by omega⟩
  have hqb := quo_blen (k := 64) ha hb
  obtain ⟨S, hS⟩ : ∃ S, blen (a.m * 2 ^ quoN 64 a.m b.m / b.m) = 64 + S := ⟨blen (a.m * 2 ^ quoN 64 a.m b.m / b.m) - 64, by omega⟩
  obtain ⟨zq, q1⟩ := dyad_Quo J (z := z) (y := y) (a := ⟨false, a.m, 0⟩) (b := ⟨false, b.m, 0⟩) (k := 64) (S := S) (bound da ha) (bound db hb) ha hb (by omega) hw ⟨by simp, by simp⟩ ⟨by simp, by simp⟩ hS
  simp only at q1
  rw [show ((64 : Nat) : Int) = 64 from rfl] at q1
  have bS := blen_div (a.m * 2 ^ quoN 64 a.m b.m / b.m) S
  have hb64 : blen (a.m * 2 ^ quoN 64 a.m b.m / b.m / 2 ^ S) = 64 := by omega
  have hq1 := quoN
  have hN : quoN 64 a.m b.m = 64 + 1 + blen b.m - blen a.m := rfl
  have bS2 := blen_mono (Nat.div_le_self (a.m * 2 ^ quoN 64 a.m b.m) b.m)
  rw [blen_mul ha] at bS2
  have bbm := may_blen g1
  have W : quoW F m a b = partW F m (a.n != b.n) (a.m * 2 ^ quoN 64 a.m b.m / b.m / 2 ^ S) (!decide (a.m * 2 ^ quoN 64 a.m b.m / b.m % 2 ^ S = 0) || !decide (a.m * 2 ^ quoN 64 a.m b.m % b.m = 0))
      ((0 : Int) - 0 - (quoN 64 a.m b.m : Nat) + S + 64 + (a.e - b.e)) := by
    rw [partW_sW _ _ _ _ _ hb64]
    have := sW_shift F m (a.n != b.n) (Q := a.m * 2 ^ quoN 64 a.m b.m / b.m) (j := S) (!decide (a.m * 2 ^ quoN 64 a.m b.m % b.m = 0)) (a.e - b.e - (quoN 64 a.m b.m : Nat)) (by have := fm_fr F; omega)
    unfold quoW
    simp only [ne_eq, decide_not] at this
    rw [← this, or_ne, show (0 : Int) - 0 - (quoN 64 a.m b.m : Nat) + S + 64 + (a.e - b.e) - 64 = a.e - b.e - (quoN 64 a.m b.m : Nat) + S by omega]
  rw [W]
  clear W bS
  generalize a.m * 2 ^ quoN 64 a.m b.m / b.m % 2 ^ S = R1 at *
  generalize a.m * 2 ^ quoN 64 a.m b.m % b.m = R2 at *
  generalize a.m * 2 ^ quoN 64 a.m b.m / b.m / 2 ^ S = Q at *
  generalize a.m * 2 ^ quoN 64 a.m b.m / b.m = Q0 at *
  have hX : -2000000 < (0 : Int) - 0 - (quoN 64 a.m b.m : Nat) + S ∧ (0 : Int) - 0 - (quoN 64 a.m b.m : Nat) + S < 2000000 := by omega
  generalize (0 : Int) - 0 - (quoN 64 a.m b.m : Nat) + S = X at *
  obtain ⟨k1, k2, k3, k4, k5⟩ := mk_head (n := false != false) (e := X) hb64
  have hd := mkD_pos (n := false != false) (m := Q) (by rintro rfl; rw [blen_zero] at hb64; omega) X
  have hQ0 : Q ≠ 0 := by rintro rfl; rw [blen_zero] at hb64; omega
  have tq := tz_blen hQ0
  have hmm : mayL (dl (mkD (false != false) Q X).m) = true := mayL_small (by
    have := blen_div Q (tz Q)
    rw [hd]; simp only; omega)
  have p1 := round_partOf J (z := zq) (d := mkD (false != false) Q X) hmm k4 (by rw [hd]; simp only; omega)
  rw [k1, k2, k3] at p1
  have w1 := round_word J F hm (neg := a.n != b.n) (more := !decide (R1 = 0) || !decide (R2 = 0)) (w := Q) (top := X + 64 + (a.e - b.e)) hb64 (by omega)
  have wa : IntKind.i64.wrap (a.e - b.e) = a.e - b.e := wrap_i64 (by omega)
  have wb : IntKind.i64.wrap (X + 64 + (a.e - b.e)) = X + 64 + (a.e - b.e) := wrap_i64 (by omega)
  clear k1 k2 k3 k4 k5 hd tq hmm hb64 hw hN hqb hS bS2 bbm f1 f2 f3 f4 f5 g1 g2 g3 g4 g5 da db bound hX hq1
  obtain ⟨na, ma, ea⟩ := a
  obtain ⟨nb, mb, eb⟩ := b
  simp only at *
  have hne : (na != nb) = !decide (na = nb) := by cases na <;> cases nb <;> rfl
  rw [hne] at w1 ⊢
  have c1 : ¬ (if na = true then (-1 : Int) else 1) = 0 := by split <;> decide
  have c2 : ¬ (if nb = true then (-1 : Int) else 1) = 0 := by split <;> decide
  generalize (if na = true then (-1 : Int) else 1) = sa at *
  generalize (if nb = true then (-1 : Int) else 1) = sb at *
  generalize (!decide (R1 = 0) || !decide (R2 = 0)) = lost at *
  simp only [DyA, A3, fmA, partA] at *
  cases lost <;> (
    repeat' (first | (simp (maxSteps := 1000000) only [seval, evB, exB, c_round_Quo, o1, s1, s2, c1, c2, q1, p1, wa, wb, w1]) | (simp (maxSteps := 1000000) (disch := first | with_reducible assumption | omega) only [dxB]) | (simp only [kI_d, kG_dt, kG_df]; split) | (simp only [kI_v, kG_vt, kG_vf]; split))
    all_goals try rfl)
def beyD (n : Bool) (q : Nat) (e : Int) (lost : Bool) : Dy := if lost then mkD n (q * 2 ^ 2 + 1) (e - 2) else mkD n q e
theorem bey_add {n : Bool} {q : Nat} {e : Int} (hq : blen q = 60) : (mkD n q e).n = n ∧ topD (mkD n q e) = e + 60 ∧ addD (mkD n q e) ⟨n, 1, e - 2⟩ = mkD n (q * 2 ^ 2 + 1) (e - 2) := by
  have h0 : q ≠ 0 := by rintro rfl; rw [blen_zero] at hq; omega
  refine ⟨by rw [mkD_pos h0], by rw [top_mk h0, hq]; rfl, ?_⟩
  have t1 := (tz_spec h0).1
  have hb := blen_div q (tz q)
  have hz := tz_blen h0
  have hm' : q / 2 ^ tz q ≠ 0 := by intro hc; rw [hc, blen_zero] at hb; omega
  rw [mkD_pos h0]
  unfold addD
  simp only
  rw [if_neg hm', if_neg (by decide), if_pos trivial, show min (e + (tz q : Int)) (e - 2) = e - 2 by omega, show (e + (tz q : Int) - (e - 2)).toNat = tz q + 2 by omega, show (e - 2 - (e - 2)).toNat = 0 by omega, Nat.pow_add, ← Nat.mul_assoc, ← t1]
theorem sW_bey (F : Fm) (md : Int) (n : Bool) {q : Nat} {e : Int} {lost : Bool} (hq : blen q = 60) : rndW F md (beyD n q e lost) = sW F md n q lost e := by
  have hF := fm_fr F
  unfold beyD
  cases lost
  · rw [if_neg (by decide), rndW_mk F md n e (by omega)]
  · have h0 : q ≠ 0 := by rintro rfl; rw [blen_zero] at hq; omega
    have hb := blen_mul h0 2
    have hb2 := blen_mono (show q * 2 ^ 2 ≤ q * 2 ^ 2 + 1 by omega)
    rw [if_pos rfl, rndW_mk F md n (e - 2) (by omega)]
    exact sW_beyond F md n (j := 2) e (by decide) (by omega)
theorem Bd_bey {n : Bool} {q : Nat} {e : Int} {lost : Bool} (hq : blen q = 60) (he : -100000000 < e ∧ e < 100000000) : Bd (beyD n q e lost) 134217728 := by
  unfold beyD
  split
  · have h0 : q * 2 ^ 2 + 1 ≠ 0 := by omega
    have hb : blen (q * 2 ^ 2 + 1) ≤ 63 := by
      have := blen_le.1 (Nat.le_of_eq hq)
      refine blen_le.2 ?_
      omega
    exact Bd_mk (by omega) (by omega) (by omega)
  · exact Bd_mk (by omega) (by omega) (by omega)
theorem Nz_bey (n : Bool) (q : Nat) (e : Int) (lost : Bool) : Nz (beyD n q e lost) := by
  unfold beyD; split <;> exact Nz_mk _ _ _
theorem ref04_Beyond (J : Al G T g) {z n lost : Bool} {q : Nat} {e : Int} (hq : blen q = 60) (he : -100000000 < e ∧ e < 100000000) :
    ∃ z', run G T 42 [DyA z (mkD n q e), .bool lost] = some (DyA z' (beyD n q e lost)) := by
  apply exP
  rw [run_k G T J.E.ref04_Beyond]
  obtain ⟨e1, e2, e3⟩ := bey_add (n := n) (e := e) hq
  have bd : Bd (mkD n q e) 134217728 := Bd_mk (by omega) (by omega) (by omega)
  have hl := dl_len_blen (mkD n q e).m
  have s1 := ref02_Top J (z := z) (d := mkD n q e) (by have := bd.bl; omega) (by have := bd.lo; have := bd.hi; omega)
  rw [e2] at s1
  have s2 := ref02_Two J (n := e - 2)
  have b2 : Bd (twoD (e - 2)) 134217728 := Bd_two (by omega) (by decide)
  unfold beyD
  rw [← e3]
  have w1 : IntKind.i64.wrap (e + 60 - 60) = e := by rw [wrap_i64 (by omega)]; omega
  have w2 : IntKind.i64.wrap (e - 2) = e - 2 := wrap_i64 (by omega)
  cases n
  · obtain ⟨z1, s3⟩ := ref02_Add J (z := z) (y := false) (bd.mono (by decide)) (b2.mono (by decide))
    rw [show twoD (e - 2) = ⟨false, 1, e - 2⟩ from rfl] at s3
    rw [show twoD (e - 2) = ⟨false, 1, e - 2⟩ from rfl] at s2
    simp only [DyA, A3, e1] at *
    cases lost
    · repeat' (first | (simp (maxSteps := 1000000) only [seval, evB, exB, c_ref04_Beyond]) | (simp (maxSteps := 1000000) (disch := first | with_reducible assumption | omega) only [dxB]) | (simp only [kI_d, kG_dt, kG_df]; split) | (simp only [kI_v, kG_vt, kG_vf]; split))
      exact ⟨_, rfl, _, (by first | rfl | rw [(bey_add (e := e) hq).1])⟩
    · repeat' (first | (simp (maxSteps := 1000000) only [seval, evB, exB, c_ref04_Beyond, s1, s2, s3, w1, w2]) | (simp (maxSteps := 1000000) (disch := first | with_reducible assumption | omega) only [dxB]) | (simp only [kI_d, kG_dt, kG_df]; split) | (simp only [kI_v, kG_vt, kG_vf]; split))
      exact ⟨_, rfl, _, (by first | rfl | rw [(bey_add (e := e) hq).1])⟩
  · obtain ⟨z1, s3⟩ := ref02_Sub J (z := z) (y := false) (bd.mono (by decide)) (b2.mono (by decide))
    have hneg : subD (mkD true q e) (twoD (e - 2)) = addD (mkD true q e) ⟨true, 1, e - 2⟩ := rfl
    rw [hneg] at s3
    rw [show twoD (e - 2) = ⟨false, 1, e - 2⟩ from rfl] at s3 s2
    simp only [DyA, A3, e1] at *
    cases lost
    · repeat' (first | (simp (maxSteps := 1000000) only [seval, evB, exB, c_ref04_Beyond]) | (simp (maxSteps := 1000000) (disch := first | with_reducible assumption | omega) only [dxB]) | (simp only [kI_d, kG_dt, kG_df]; split) | (simp only [kI_v, kG_vt, kG_vf]; split))
      exact ⟨_, rfl, _, (by first | rfl | rw [(bey_add (e := e) hq).1])⟩
    · repeat' (first | (simp (maxSteps := 1000000) only [seval, evB, exB, c_ref04_Beyond, s1, s2, s3, w1, w2]) | (simp (maxSteps := 1000000) (disch := first | with_reducible assumption | omega) only [dxB]) | (simp only [kI_d, kG_dt, kG_df]; split) | (simp only [kI_v, kG_vt, kG_vf]; split))
      exact ⟨_, rfl, _, (by first | rfl | rw [(bey_add (e := e) hq).1])⟩
theorem ref04_Quo (J : Al G T g) (F : Fm) {m : Int} (hm : 1 ≤ m ∧ m ≤ 5) {z y : Bool} {a b : Dy} (ha : a.m ≠ 0) (hb : b.m ≠ 0) (ba : Bd a 33554432) (bb : Bd b 33554432)
    (la : blen a.m < 1048576) (lb : blen b.m < 1048576) :
    run G T 17 [.int .u8 F.u, .int .u8 m, DyA z a, DyA y b] = some (.tup [.int .u64 ((quoW F m a b).1 : Int), .int .u8 ((quoW F m a b).2 : Int)]) := by
  rw [run_k G T J.E.ref04_Quo]
  have hqb := quo_blen (k := 60) ha hb
  obtain ⟨S, hS⟩ : ∃ S, blen (a.m * 2 ^ quoN 60 a.m b.m / b.m) = 60 + S := ⟨blen (a.m * 2 ^ quoN 60 a.m b.m / b.m) - 60, by omega⟩
  obtain ⟨ba1, ba2, ba3⟩ := ba
  obtain ⟨bb1, bb2, bb3⟩ := bb
  obtain ⟨z1, q1⟩ := ref02_Quo J (z := z) (y := y) (a := a) (b := b) (k := 60) (S := S) ha hb la lb (by omega) (by omega) (by omega) (by omega) hS
  rw [show ((60 : Nat) : Int) = 60 from rfl] at q1
  have bS := blen_div (a.m * 2 ^ quoN 60 a.m b.m / b.m) S
  have hb60 : blen (a.m * 2 ^ quoN 60 a.m b.m / b.m / 2 ^ S) = 60 := by omega
  have bS2 := blen_mono (Nat.div_le_self (a.m * 2 ^ quoN 60 a.m b.m) b.m)
  rw [blen_mul ha] at bS2
  have hN : quoN 60 a.m b.m = 60 + 1 + blen b.m - blen a.m := rfl
  have hN' : quoN 64 a.m b.m = 64 + 1 + blen b.m - blen a.m := rfl
  have hF := fm_fr F
  have W : quoW F m a b = sW F m (a.n != b.n) (a.m * 2 ^ quoN 60 a.m b.m / b.m / 2 ^ S) (!decide (a.m * 2 ^ quoN 60 a.m b.m / b.m % 2 ^ S = 0) || !decide (a.m * 2 ^ quoN 60 a.m b.m % b.m = 0)) (a.e - b.e - (quoN 60 a.m b.m : Nat) + S) := by
    have h1 := sW_quo F m (a.n != b.n) (a := a.m) (b := b.m) (N := quoN 60 a.m b.m) (j := quoN 64 a.m b.m - quoN 60 a.m b.m) (a.e - b.e - (quoN 60 a.m b.m : Nat)) hb (by omega)
    rw [show quoN 60 a.m b.m + (quoN 64 a.m b.m - quoN 60 a.m b.m) = quoN 64 a.m b.m by omega, show a.e - b.e - (quoN 60 a.m b.m : Nat) - ((quoN 64 a.m b.m - quoN 60 a.m b.m : Nat) : Int) = a.e - b.e - (quoN 64 a.m b.m : Nat) by omega] at h1
    have h2 := sW_shift F m (a.n != b.n) (Q := a.m * 2 ^ quoN 60 a.m b.m / b.m) (j := S) (!decide (a.m * 2 ^ quoN 60 a.m b.m % b.m = 0)) (a.e - b.e - (quoN 60 a.m b.m : Nat)) (by omega)
    unfold quoW
    simp only [ne_eq, decide_not] at h2
    rw [h1, ← h2, or_ne]
  rw [W]
  clear W hF hN'
  have hX : -99000000 < a.e - b.e - (quoN 60 a.m b.m : Nat) + (S : Int) ∧ a.e - b.e - (quoN 60 a.m b.m : Nat) + (S : Int) < 99000000 := by omega
  clear hN bS2 bS hS hqb
  generalize a.e - b.e - (quoN 60 a.m b.m : Nat) + (S : Int) = X at *
  generalize (!decide (a.m * 2 ^ quoN 60 a.m b.m / b.m % 2 ^ S = 0) || !decide (a.m * 2 ^ quoN 60 a.m b.m % b.m = 0)) = lost at *
  generalize a.m * 2 ^ quoN 60 a.m b.m / b.m / 2 ^ S = Q at *
  obtain ⟨z2, q2⟩ := ref04_Beyond J (z := z1) (n := a.n != b.n) (lost := lost) (e := X) hb60 (by omega)
  have q3 := ref04_Round J F hm (z := z2) (x := beyD (a.n != b.n) Q X lost) (Nz_bey _ _ _ _) (Bd_bey hb60 (by omega))
  rw [sW_bey F m _ hb60] at q3
  simp only [DyA, A3] at *
  repeat' (first | (simp (maxSteps := 1000000) only [seval, evB, exB, c_ref04_Quo, q1, q2, q3]) | (simp (maxSteps := 1000000) (disch := first | with_reducible assumption | omega) only [dxB]) | (simp only [kI_d, kG_dt, kG_df]; split) | (simp only [kI_v, kG_vt, kG_vf]; split))
  all_goals try rfl
def cT (a b : List Nat) (k i : Nat) : Nat := if i ≤ k then dg a i * dg b (k - i) else 0
def cS (a b : List Nat) (k : Nat) : Nat → Nat
  | 0 => 0
  | i + 1 => cS a b k i + cT a b k i
def cV (a b : List Nat) : Nat → Nat
  | 0 => 0
  | N + 1 => cV a b N + 4294967296 ^ N * cS a b N a.length
theorem dg_c0 (x : Nat) (a : List Nat) : dg (x :: a) 0 = x := by rw [dg_lt (by simp)]; rfl
theorem dg_cs (x : Nat) (a : List Nat) (i : Nat) : dg (x :: a) (i + 1) = dg a i := rfl
theorem cS_cons (x : Nat) (a b : List Nat) (k : Nat) : ∀ i, cS (x :: a) b k (i + 1) = x * dg b k + (if k = 0 then 0 else cS a b (k - 1) i)
  | 0 => by
    simp only [cS, cT, dg_c0, Nat.sub_zero, Nat.zero_le, if_true, Nat.zero_add]
    split <;> rfl
  | i + 1 => by
    rw [cS, cS_cons x a b k i, cT, dg_cs]
    by_cases h0 : k = 0
    · rw [if_pos h0, if_pos h0, if_neg (by omega)]
    · rw [if_neg h0, if_neg h0, cS, cT]
      by_cases h1 : i + 1 ≤ k
      · rw [if_pos h1, if_pos (by omega), show k - 1 - i = k - (i + 1) by omega, Nat.add_assoc]
      · rw [if_neg h1, if_neg (by omega)]; rfl
theorem cV_cons (x : Nat) (a b : List Nat) : ∀ N, cV (x :: a) b N = x * val (b.take N) + (if N = 0 then 0 else 4294967296 * cV a b (N - 1))
  | 0 => by simp [cV, val]
  | N + 1 => by
    rw [cV, cV_cons x a b N, List.length_cons, cS_cons, val_take_succ', if_neg (show ¬ N + 1 = 0 by omega), Nat.add_sub_cancel]
    by_cases h0 : N = 0
    · subst h0
      rw [if_pos rfl, if_pos rfl]; simp [cV, val]
    · obtain ⟨M, rfl⟩ : ∃ M, N = M + 1 := ⟨N - 1, by omega⟩
      rw [if_neg (show ¬ M + 1 = 0 by omega), if_neg (show ¬ M + 1 = 0 by omega), Nat.add_sub_cancel, cV]
      simp only [Nat.mul_add, Nat.pow_succ]
      generalize cV a b M = V
      generalize cS a b M a.length = S
      generalize val (b.take (M + 1)) = U
      generalize dg b (M + 1) = d
      generalize 4294967296 ^ M = p
      rw [Nat.mul_left_comm (p * 4294967296) x d, show p * 4294967296 * S = 4294967296 * (p * S) by rw [Nat.mul_comm p, Nat.mul_assoc]]
      omega
theorem cV_nil (b : List Nat) : ∀ N, cV [] b N = 0
  | 0 => rfl
  | N + 1 => by rw [cV, cV_nil b N, List.length_nil, cS, Nat.mul_zero]
theorem cV_eq (b : List Nat) : ∀ (a : List Nat) (N : Nat), a.length + b.length ≤ N → cV a b N = val a * val b
  | [], N, _ => by rw [val_nil, Nat.zero_mul, cV_nil]
  | x :: a, N, h => by
    rw [List.length_cons] at h
    rw [cV_cons, List.take_of_length_le (by omega), if_neg (by omega), cV_eq b a (N - 1) (by omega), val_cons, Nat.add_mul, Nat.mul_assoc]
theorem cS_low {a b : List Nat} {k : Nat} : ∀ {i : Nat}, i + b.length ≤ k + 1 → cS a b k i = 0
  | 0, _ => rfl
  | i + 1, h => by
    rw [cS, cS_low (by omega), cT]
    split
    · rw [dg_ge (l := b) (by omega), Nat.mul_zero]
    · rfl
theorem cS_top {a b : List Nat} {k : Nat} : ∀ j, cS a b k (k + 1 + j) = cS a b k (k + 1)
  | 0 => rfl
  | j + 1 => by rw [← Nat.add_assoc, cS, cS_top j, cT, if_neg (by omega)]; rfl
theorem cS_end (a b : List Nat) (k n : Nat) : cS a b k (min (k + 1) n) = cS a b k n := by
  rcases Nat.lt_or_ge n (k + 1) with h | h
  · rw [Nat.min_eq_right (by omega)]
  · rw [Nat.min_eq_left h]
    have := cS_top (a := a) (b := b) (k := k) (n - (k + 1))
    rw [show k + 1 + (n - (k + 1)) = n by omega] at this
    exact this.symm
theorem cT_lt {a b : List Nat} (ha : Dg a) (hb : Dg b) (k i : Nat) : cT a b k i < 18446744073709551616 := by
  unfold cT; split
  · have := mac_lt (ha.dg i) (hb.dg (k - i)) (show 0 < 4294967296 by decide) (show 0 < 4294967296 by decide); omega
  · decide
theorem cS_lt {a b : List Nat} (ha : Dg a) (hb : Dg b) (k : Nat) : ∀ i, cS a b k i ≤ i * 18446744073709551616
  | 0 => Nat.zero_le _
  | i + 1 => by
    have := cT_lt ha hb k i
    have := cS_lt ha hb k i
    rw [cS]; omega
theorem cV_step {V A L p k S : Nat} (h : L + p * A = V) : L + p * ((A + S) % 4294967296) + p * 4294967296 * ((A + S) / 4294967296) = V + p * S := by
  rw [Nat.mul_assoc, Nat.add_assoc, ← Nat.mul_add, Nat.mod_add_div, Nat.mul_add]; omega
theorem or_shl {a h : Nat} (ha : a < 4294967296) : orI .u64 (a : Int) ((h : Int) * 4294967296 % 18446744073709551616) = ((a + h % 4294967296 * 4294967296 : Nat) : Int) := by
  have e : (h : Int) * 4294967296 % 18446744073709551616 = ((h % 4294967296 * 4294967296 : Nat) : Int) := by omega
  rw [e, or64 (by omega) (by omega), show (4294967296 : Nat) = 2 ^ 32 from rfl, or_add (show a < 2 ^ 32 from ha)]
theorem Mul_inner {a b : List Nat} {z y : Bool} {k A : Nat} {v : AV} (ha : Dg a) (hb : Dg b) (hs : a.length < 1073741824) (hk : k < 2147483648) (hA : A < 1298074214633706907132624082305024) : ∀ (m i : Nat) (h : Heap) (low high : Nat),
    m + i = min (k + 1) a.length → k < b.length + i → low < 18446744073709551616 → low + 18446744073709551616 * high = A + cS a b k i →
    Post (evL G T c_ref01_Mul_l1 [(0, D z a), (1, D y b), (5, v), (6, .int .u64 (low : Int)), (7, .int .u64 (high : Int)), (8, .int .i64 (k : Int)), (10, .int .i64 (i : Int))] h) fun r =>
      ∃ e low' high', r = (.exit 2, (0, D z a) :: (1, D y b) :: (5, v) :: (6, .int .u64 ((low' : Nat) : Int)) :: (7, .int .u64 ((high' : Nat) : Int)) :: (8, .int .i64 (k : Int)) :: e, h) ∧ low' < 18446744073709551616 ∧ low' + 18446744073709551616 * high' = A + cS a b k a.length
  | 0, i, h, low, high, hm, hi, hl, he => by
    rw [s_loopc G T (c := c_ref01_Mul_l1) rfl]
    have hend := cS_end a b k a.length
    rw [show min (k + 1) a.length = i by omega] at hend
    rw [hend] at he
    by_cases h1 : (i : Int) ≤ (k : Int)
    · have h2 : ¬ (i : Int) < (a.length : Int) := by omega
      repeat (first | (simp (maxSteps := 1000000) only [seval, evB, c_ref01_Mul_b1, h1, h2]) | (simp (disch := omega) only [dsB]))
      exact Post.some ⟨_, _, _, rfl, hl, he⟩
    · repeat (first | (simp (maxSteps := 1000000) only [seval, evB, c_ref01_Mul_b1, h1]) | (simp (disch := omega) only [dsB]))
      exact Post.some ⟨_, _, _, rfl, hl, he⟩
  | m + 1, i, h, low, high, hm, hi, hl, he => by
    rw [s_loopc G T (c := c_ref01_Mul_l1) rfl]
    have h1 : (i : Int) ≤ (k : Int) := by omega
    have h2 : (i : Int) < (a.length : Int) := by omega
    have e7 : (i : Int) + 1 = ((i + 1 : Nat) : Int) := by omega
    have e8 : (k : Int) - (i : Int) = ((k - i : Nat) : Int) := by omega
    have hx := ha.dg i
    have hy := hb.dg (k - i)
    have hki : k - i < b.length := by omega
    have w1 : (dg a i : Int) % 18446744073709551616 = dg a i := by omega
    have w2 : (dg b (k - i) : Int) % 18446744073709551616 = dg b (k - i) := by omega
    have hM := mac_lt hx hy (show 0 < 4294967296 by decide) (show 0 < 4294967296 by decide)
    have hSb := cS_lt ha hb k i
    have w4 : (dg a i : Int) * (dg b (k - i) : Int) = ((dg a i * dg b (k - i) : Nat) : Int) := by rw [Int.natCast_mul]
    have hcs : cS a b k (i + 1) = cS a b k i + dg a i * dg b (k - i) := by rw [cS, cT, if_pos (by omega)]
    generalize dg a i * dg b (k - i) = p at *
    have w5 : (p : Int) % 18446744073709551616 = p := by omega
    by_cases hc : low + p < 18446744073709551616
    · have w6 : ((low : Int) + (p : Int)) % 18446744073709551616 = ((low + p : Nat) : Int) := by omega
      have w7 : ¬ ((low + p : Nat) : Int) < (p : Int) := by omega
      repeat (first | (simp (maxSteps := 1000000) only [seval, evB, c_ref01_Mul_b1, h1, h2, e7, e8, w1, w2, w4, w5, w6, w7]) | (simp (disch := omega) only [dsB]))
      exact Mul_inner ha hb hs hk hA m (i + 1) _ _ _ (by omega) (by omega) hc (by rw [hcs]; omega)
    · have w6 : ((low : Int) + (p : Int)) % 18446744073709551616 = ((low + p - 18446744073709551616 : Nat) : Int) := by omega
      have w7 : ((low + p - 18446744073709551616 : Nat) : Int) < (p : Int) := by omega
      have w8 : ((high : Int) + 1) % 18446744073709551616 = ((high + 1 : Nat) : Int) := by omega
      repeat (first | (simp (maxSteps := 1000000) only [seval, evB, c_ref01_Mul_b1, h1, h2, e7, e8, w1, w2, w4, w5, w6, w7, w8]) | (simp (disch := omega) only [dsB]))
      exact Mul_inner ha hb hs hk hA m (i + 1) _ _ _ (by omega) (by omega) (by omega) (by rw [hcs]; omega)
theorem Mul_outer {a b : List Nat} {z y : Bool} (ha : Dg a) (hb : Dg b) (hs : a.length < 1073741824) (ht : b.length < 1073741824) : ∀ (m k : Nat) (h : Heap) (v : AV) (l : List Nat) (low high : Nat),
    m + k = a.length + b.length → Bld h v l → Dg l → l.length = k → low < 18446744073709551616 → low + 18446744073709551616 * high < 1298074214633706907132624082305024 →
    val l + 4294967296 ^ k * (low + 18446744073709551616 * high) = cV a b k →
    Post (evL G T c_ref01_Mul_l2 [(0, D z a), (1, D y b), (5, v), (6, .int .u64 (low : Int)), (7, .int .u64 (high : Int)), (8, .int .i64 (k : Int))] h) fun r =>
      ∃ e h' v' l' c', r = (.exit 0, (0, D z a) :: (1, D y b) :: (5, v') :: e, h') ∧ Bld h' v' l' ∧ Dg l' ∧ l'.length = a.length + b.length ∧ val l' + 4294967296 ^ (a.length + b.length) * c' = val a * val b
  | 0, k, h, v, l, low, high, hm, B, hd, hl, hlow, hA, he => by
    rw [s_loopc G T (c := c_ref01_Mul_l2) rfl]
    have e1 : (a.length : Int) + (b.length : Int) = ((a.length + b.length : Nat) : Int) := by omega
    have h1 : ¬ (k : Int) < ((a.length + b.length : Nat) : Int) := by omega
    repeat (first | (simp (maxSteps := 1000000) only [seval, evB, c_ref01_Mul_b2, e1, h1]) | (simp (disch := omega) only [dsB]))
    rw [show k = a.length + b.length by omega, cV_eq b a _ (Nat.le_refl _)] at he
    exact Post.some ⟨_, _, _, _, _, rfl, B, hd, by omega, he⟩
  | m + 1, k, h, v, l, low, high, hm, B, hd, hl, hlow, hA, he => by
    rw [s_loopc G T (c := c_ref01_Mul_l2) rfl]
    have e1 : (a.length : Int) + (b.length : Int) = ((a.length + b.length : Nat) : Int) := by omega
    have h1 : (k : Int) < ((a.length + b.length : Nat) : Int) := by omega
    have e7 : (k : Int) + 1 = ((k + 1 : Nat) : Int) := by omega
    obtain ⟨i0, hi0⟩ : ∃ i0, i0 = k + 1 - b.length := ⟨_, rfl⟩
    have hlow0 : cS a b k i0 = 0 := by
      by_cases q : b.length ≤ k + 1
      · exact cS_low (by omega)
      · have : i0 = 0 := by omega
        rw [this]; rfl
    obtain ⟨_, hr, e, low', high', rfl, hlow', he'⟩ := Mul_inner (G := G) (T := T) (z := z) (y := y) (v := v) (k := k) (A := low + 18446744073709551616 * high) ha hb hs (by omega) hA (min (k + 1) a.length - i0) i0 h low high (by omega) (by omega) hlow (by rw [hlow0]; rfl)
    have hSb := cS_lt ha hb k a.length
    have hstep := cV_step (S := cS a b k a.length) (k := k) he
    rw [← he'] at hstep
    have hacc : low' + 18446744073709551616 * high' < 2596148429267413814265248164610048 := by omega
    have hbnd : (low' + 18446744073709551616 * high') / 4294967296 < 1298074214633706907132624082305024 := by omega
    have hlo : (low' + 18446744073709551616 * high') % 4294967296 = low' % 4294967296 := by omega
    have hnew : low' / 4294967296 + high' % 4294967296 * 4294967296 + 18446744073709551616 * (high' / 4294967296) = (low' + 18446744073709551616 * high') / 4294967296 := by omega
    rw [hlo, ← hnew] at hstep
    rw [← hnew] at hbnd
    clear hlo hnew hSb
    have w2 : (low' : Int) % 4294967296 = ((low' % 4294967296 : Nat) : Int) := by omega
    have w3 : (low' : Int) / 4294967296 = ((low' / 4294967296 : Nat) : Int) := by omega
    have w4 := or_shl (a := low' / 4294967296) (h := high') (by omega)
    have w5 : (high' : Int) / 4294967296 = ((high' / 4294967296 : Nat) : Int) := by omega
    have hm1 : low' % 4294967296 < 4294967296 := Nat.mod_lt _ (by decide)
    have hq : low' / 4294967296 + high' % 4294967296 * 4294967296 < 18446744073709551616 := by omega
    have key : val (l ++ [low' % 4294967296]) + 4294967296 ^ (k + 1) * (low' / 4294967296 + high' % 4294967296 * 4294967296 + 18446744073709551616 * (high' / 4294967296)) = cV a b (k + 1) := by
      rw [val_snoc, hl, Nat.pow_succ, cV]; exact hstep
    have B2 := (Bld_app B (w := ((low' % 4294967296 : Nat) : Int)) (by omega) (by omega)).2
    rw [Int.toNat_natCast] at B2
    by_cases h2 : (b.length : Int) ≤ (k : Int)
    · have e8 : (k : Int) - (b.length : Int) = ((k - b.length : Nat) : Int) := by omega
      have e9 : ((k - b.length : Nat) : Int) + 1 = (i0 : Int) := by omega
      repeat (first | (simp (maxSteps := 1000000) only [seval, evB, c_ref01_Mul_b2, e1, h1, h2, e8, e9, hr, w2, w3, w4, w5, e7 ]) | (simp (disch := omega) only [dsB,  app_b B]))
      exact Mul_outer ha hb hs ht m (k + 1) _ _ _ _ _ (by omega) B2 (Dg_snoc hd hm1) (by rw [List.length_append, hl]; rfl) hq hbnd key
    · have hz : i0 = 0 := by omega
      subst hz
      rw [cast0] at hr
      repeat (first | (simp (maxSteps := 1000000) only [seval, evB, c_ref01_Mul_b2, e1, h1, h2, hr, w2, w3, w4, w5, e7 ]) | (simp (disch := omega) only [dsB,  app_b B]))
      exact Mul_outer ha hb hs ht m (k + 1) _ _ _ _ _ (by omega) B2 (Dg_snoc hd hm1) (by rw [List.length_append, hl]; rfl) hq hbnd key
theorem ref01_Mul (J : Al G T g) {z y : Bool} {a b : Nat} (hs : (dl a).length < 1073741824) (ht : (dl b).length < 1073741824) : ∃ z', run G T 158 [D z (dl a), D y (dl b)] = some (D z' (dl (a * b))) := by
  apply exP
  rw [run_k G T J.F.ref01_Mul]
  by_cases h1 : ((dl a).length : Int) = 0
  · have ha : a = 0 := dl_len0.1 (by omega)
    repeat (first | (simp (maxSteps := 1000000) only [seval, evB, c_ref01_Mul, h1]) | (simp (disch := omega) only [dsB]))
    rw [ha, Nat.zero_mul, dl_zero]
    exact Post.some ⟨true, rfl⟩
  · by_cases h2 : ((dl b).length : Int) = 0
    · have hb : b = 0 := dl_len0.1 (by omega)
      repeat (first | (simp (maxSteps := 1000000) only [seval, evB, c_ref01_Mul, h1, h2]) | (simp (disch := omega) only [dsB]))
      rw [hb, Nat.mul_zero, dl_zero]
      exact Post.some ⟨true, rfl⟩
    · obtain ⟨_, hr, e, h', v', l', c', rfl, B, hd, hl, hv⟩ := Mul_outer (G := G) (T := T) (z := z) (y := y) (Dg_dl a) (Dg_dl b) hs ht ((dl a).length + (dl b).length) 0 .nil .nil [] 0 0 rfl Bld_nil Dg.nil rfl (by decide) (by decide) rfl
      rw [cast0] at hr
      have hva := val_lt (Dg_dl a)
      have hvb := val_lt (Dg_dl b)
      have hc0 : val l' = a * b := by
        rw [val_dl] at hva hvb hv
        rw [val_dl] at hv
        have hlt : a * b < 4294967296 ^ ((dl a).length + (dl b).length) := by
          rw [Nat.pow_add]; exact Nat.mul_lt_mul_of_lt_of_lt hva hvb
        rcases Nat.eq_zero_or_pos c' with hc | hc
        · rw [hc, Nat.mul_zero, Nat.add_zero] at hv; exact hv
        · have := Nat.mul_le_mul_left (4294967296 ^ ((dl a).length + (dl b).length)) hc
          omega
      obtain ⟨z', hz⟩ := ref01_Trim J (z := isN v') hd (by omega)
      rw [hc0] at hz
      repeat (first | (simp (maxSteps := 1000000) only [seval, evB, c_ref01_Mul, h1, h2, hr, B.snap, hz]) | (simp (disch := omega) only [dsB]))
      exact Post.some ⟨_, rfl⟩
theorem ref02_Mul (J : Al G T g) {z y : Bool} {a b : Dy} (ha : (dl a.m).length < 1073741824) (hb : (dl b.m).length < 1073741824) (ea : -274877906944 < a.e ∧ a.e < 274877906944) (eb : -274877906944 < b.e ∧ b.e < 274877906944) :
    ∃ z', run G T 154 [DyA z a, DyA y b] = some (DyA z' (mkD (a.n != b.n) (a.m * b.m) (a.e + b.e))) := by
  obtain ⟨n, m, e⟩ := a
  obtain ⟨n', m', e'⟩ := b
  simp only at *
  obtain ⟨z1, h1⟩ := ref01_Mul J (z := z) (y := y) (a := m) (b := m') ha hb
  have hl : (dl (m * m')).length < 17179869184 := by
    have h1 := dl_len.1 (Nat.le_refl (dl m).length)
    have h2 := dl_len.1 (Nat.le_refl (dl m').length)
    have h3 : (dl (m * m')).length ≤ (dl m).length + (dl m').length := by
      rw [dl_len, Nat.pow_add]; exact Nat.mul_lt_mul_of_lt_of_lt h1 h2
    omega
  obtain ⟨z2, h2⟩ := ref02_Form J (n := n != n') (z := z1) (a := m * m') (e := e + e') hl (by omega)
  have w1 : IntKind.i64.wrap (e + e') = e + e' := wrap_i64 (by omega)
  have hne : (n != n') = !decide (n = n') := by cases n <;> cases n' <;> rfl
  refine ⟨z2, ?_⟩
  rw [hne] at h2 ⊢
  rw [run_k G T J.F.ref02_Mul]
  simp only [DyA, A3] at *
  repeat' (first | (simp (maxSteps := 1000000) only [seval, evB, exB, c_ref02_Mul, h1, w1, h2]) | (simp (maxSteps := 1000000) (disch := first | with_reducible assumption | omega) only [dxB]) | (simp only [kI_d, kG_dt, kG_df]; split) | (simp only [kI_v, kG_vt, kG_vf]; split))
theorem blen_mulT {x y a b : Nat} (hx : blen x ≤ a) (hy : blen y ≤ b) : blen (x * y) ≤ a + b := by
  refine blen_le.2 ?_
  rw [Nat.pow_add]
  exact Nat.mul_lt_mul_of_lt_of_lt (blen_le.1 hx) (blen_le.1 hy)
theorem mkD_odd {n : Bool} {m : Nat} {e : Int} (h : m % 2 = 1) : mkD n m e = ⟨n, m, e⟩ := by
  rw [mkD_pos (by omega), tz_odd h, Nat.pow_zero, Nat.div_one]; simp
theorem mkD_oddp {n : Bool} {m : Nat} {e : Int} (h : m % 2 = 1) (j : Nat) : mkD n (m * 2 ^ j) (e - j) = ⟨n, m, e⟩ := by
  have hp := Nat.two_pow_pos j
  have h0 : m * 2 ^ j ≠ 0 := by
    intro hc
    rcases Nat.mul_eq_zero.1 hc with h1 | h1 <;> omega
  rw [mkD_pos h0, tz_unique h, Nat.mul_div_cancel _ hp, show e - (j : Int) + j = e by omega]
theorem odd_mul {a b : Nat} (ha : a % 2 = 1) (hb : b % 2 = 1) : a * b % 2 = 1 := by rw [Nat.mul_mod, ha, hb]
theorem quo_prod (F : Fm) (md : Int) {n n' : Bool} {m m' : Nat} {e e' : Int} (ho : m % 2 = 1) (ho' : m' % 2 = 1) : quoW F md (mkD (n != n') (m * m') (e + e')) ⟨n', m', e'⟩ = rndW F md ⟨n, m, e⟩ := by
  have hF := fm_fr F
  rw [mkD_odd (odd_mul ho ho')]
  unfold quoW
  simp only
  have hq := quo_blen (k := 64) (a := m * m') (b := m') (by have := odd_mul ho ho'; omega) (by omega)
  generalize quoN 64 (m * m') m' = N at *
  have e1 : m * m' * 2 ^ N = m * 2 ^ N * m' := by rw [Nat.mul_assoc, Nat.mul_assoc, Nat.mul_comm m']
  rw [e1, Nat.mul_div_cancel _ (by omega), Nat.mul_mod_left]
  rw [e1, Nat.mul_div_cancel _ (by omega)] at hq
  have h1 := rndW_mk F md n (M := m * 2 ^ N) (e - N) (by omega)
  rw [mkD_oddp ho] at h1
  rw [h1, show e + e' - e' - (N : Int) = e - N by omega]
  cases n <;> cases n' <;> rfl
def Fm.nan (F : Fm) : Nat := F.most * 2 ^ F.fr + 2 ^ (F.fr - 1)
theorem w_split {F : Fm} {w : Nat} (h : w < 2 * F.sg) : w = w % F.sg + F.sgn (F.ng w) ∧ w % F.sg = 2 ^ F.fr * F.ex w + F.fc w ∧ F.fc w < 2 ^ F.fr ∧ F.ex w ≤ F.most := by
  have hp := Nat.two_pow_pos F.fr
  have hsg : F.sg = 2 ^ F.fr * (F.most + 1) := by cases F <;> decide
  have h0 : 0 < F.sg := by cases F <;> decide
  refine ⟨?_, (Nat.div_add_mod _ _).symm, Nat.mod_lt _ hp, ?_⟩
  · unfold Fm.ng Fm.sgn
    by_cases h1 : F.sg ≤ w
    · rw [decide_eq_true h1, if_pos rfl, Nat.mod_eq_sub_mod h1, Nat.mod_eq_of_lt (by omega)]; omega
    · rw [decide_eq_false h1, if_neg (by decide), Nat.mod_eq_of_lt (by omega)]; rfl
  · have h1 := Nat.mod_lt w h0
    have : w % F.sg / 2 ^ F.fr < F.most + 1 := Nat.div_lt_of_lt_mul (by rw [← hsg]; exact h1)
    unfold Fm.ex; omega
theorem cls_range (F : Fm) (w : Nat) : F.cls w = 1 ∨ F.cls w = 2 ∨ F.cls w = 3 ∨ F.cls w = 4 ∨ F.cls w = 5 := by
  unfold Fm.cls; repeat' split
  all_goals omega
theorem cls_one {F : Fm} {w : Nat} (h : w < 2 * F.sg) : F.cls w = 1 ↔ w % F.sg = 0 := by
  obtain ⟨h1, h2, h3, h4⟩ := w_split h
  have hp := Nat.two_pow_pos F.fr
  rw [h2]
  unfold Fm.cls
  generalize F.ex w = x at *
  generalize F.fc w = y at *
  constructor
  · intro hc
    have hx : x = 0 ∧ y = 0 := by
      by_cases a : x = 0
      · by_cases b : y = 0
        · exact ⟨a, b⟩
        · rw [if_pos a, if_neg b] at hc; omega
      · rw [if_neg a] at hc
        split at hc
        · omega
        · split at hc <;> omega
    rw [hx.1, hx.2]; rfl
  · intro hc
    have hy : y = 0 := by omega
    have hx : x = 0 := by
      rcases Nat.mul_eq_zero.1 (show 2 ^ F.fr * x = 0 by omega) with q | q
      · omega
      · exact q
    rw [if_pos hx, if_pos hy]
theorem cls_four {F : Fm} {w : Nat} (h : w < 2 * F.sg) : F.cls w = 4 ↔ w % F.sg = F.most * 2 ^ F.fr := by
  obtain ⟨h1, h2, h3, h4⟩ := w_split h
  have hp := Nat.two_pow_pos F.fr
  have hm0 : 0 < F.most := by cases F <;> decide
  rw [h2]
  unfold Fm.cls
  generalize F.ex w = x at *
  generalize F.fc w = y at *
  constructor
  · intro hc
    by_cases a : x = 0
    · rw [if_pos a] at hc; split at hc <;> omega
    · rw [if_neg a] at hc
      by_cases b : x < F.most
      · rw [if_pos b] at hc; omega
      · rw [if_neg b] at hc
        by_cases c : y = 0
        · rw [c, show x = F.most by omega, Nat.mul_comm]; rfl
        · rw [if_neg c] at hc; omega
  · intro hc
    have hx : x = F.most := by
      rcases Nat.lt_or_ge x F.most with q | q
      · have := Nat.mul_le_mul_left (2 ^ F.fr) q
        rw [Nat.mul_succ, Nat.mul_comm (2 ^ F.fr) F.most] at this
        omega
      · omega
    have hy : y = 0 := by rw [hx, Nat.mul_comm] at hc; omega
    rw [if_neg (by omega), if_neg (by omega), if_pos hy]
theorem cls_zero_w {F : Fm} {w : Nat} (h : w < 2 * F.sg) (hc : F.cls w = 1) : w = F.sgn (F.ng w) ∧ F.val w = ⟨false, 0, 0⟩ := by
  have h1 := (w_split h).1
  rw [(cls_one h).1 hc, Nat.zero_add] at h1
  refine ⟨h1, ?_⟩
  rw [h1]
  have := val_zero F (F.ng w)
  rw [Nat.zero_add] at this
  exact this
theorem cls_inf_w {F : Fm} {w : Nat} (h : w < 2 * F.sg) (hc : F.cls w = 4) : w = F.inf (F.ng w) := by
  have h1 := (w_split h).1
  rw [(cls_four h).1 hc] at h1
  exact h1
theorem val_cls {F : Fm} {w : Nat} (h : w < 2 * F.sg) (h1 : F.cls w ≠ 1) (h2 : F.fin w) : (F.val w).m ≠ 0 := by
  obtain ⟨s, n, hw, q1, q2, q3⟩ := word_parts h
  have h0 : s ≠ 0 := by
    rintro rfl
    apply h1
    rw [cls_one h, hw]
    exact (sgn_mod n q1).1
  rw [hw]; exact (round_val F 1 n (q2 h2) h0).2
def sumW (F : Fm) (md : Int) (d : Dy) : Nat × Nat := if d.m = 0 then (F.sgn (decide (md = 5)), 0) else rndW F md d
def addP (F : Fm) (md : Int) (c : Int) (n : Bool) (d : Dy) (c' : Int) (n' : Bool) (d' : Dy) : Nat × Nat :=
  if c = 5 ∨ c' = 5 then (F.nan, 0)
  else if c = 4 ∧ c' = 4 ∧ n ≠ n' then (F.nan, 1)
  else if c = 4 then (F.inf n, 0)
  else if c' = 4 then (F.inf n', 0)
  else if c = 1 ∧ c' = 1 ∧ n = n' then (F.sgn n, 0)
  else sumW F md (addD d d')
def mulD (a b : Dy) : Dy := mkD (a.n != b.n) (a.m * b.m) (a.e + b.e)
def mulP (F : Fm) (md : Int) (c : Int) (n : Bool) (d : Dy) (c' : Int) (n' : Bool) (d' : Dy) : Nat × Nat :=
  if c = 5 ∨ c' = 5 then (F.nan, 0)
  else if (c = 4 ∨ c' = 4) ∧ (c = 1 ∨ c' = 1) then (F.nan, 1)
  else if c = 4 ∨ c' = 4 then (F.inf (n != n'), 0)
  else if c = 1 ∨ c' = 1 then (F.sgn (n != n'), 0)
  else sumW F md (mulD d d')
def Fm.vl (F : Fm) (w : Nat) : Dy := if F.fin w then F.val w else ⟨false, 0, 0⟩
def addW (F : Fm) (md : Int) (a b : Nat) : Nat × Nat := addP F md (F.cls a) (F.ng a) (F.vl a) (F.cls b) (F.ng b) (F.vl b)
def subW (F : Fm) (md : Int) (a b : Nat) : Nat × Nat := addP F md (F.cls a) (F.ng a) (F.vl a) (F.cls b) (!F.ng b) (negD (F.vl b))
def mulW2 (F : Fm) (md : Int) (a b : Nat) : Nat × Nat := mulP F md (F.cls a) (F.ng a) (F.vl a) (F.cls b) (F.ng b) (F.vl b)
theorem addD_comm {a b : Dy} (ha : Nz a) (hb : Nz b) : addD a b = addD b a := by
  unfold addD
  by_cases h1 : a.m = 0
  · by_cases h2 : b.m = 0
    · rw [if_pos h1, if_pos h2, ha.1 h1, hb.1 h2]
    · rw [if_pos h1, if_neg h2, if_pos h1]
  · by_cases h2 : b.m = 0
    · rw [if_neg h1, if_pos h2, if_pos h2]
    · rw [if_neg h1, if_neg h2, if_neg h2, if_neg h1, Int.min_comm b.e a.e]
      generalize a.m * 2 ^ (a.e - min a.e b.e).toNat = x
      generalize b.m * 2 ^ (b.e - min a.e b.e).toNat = y
      by_cases h3 : a.n = b.n
      · rw [if_pos h3, if_pos h3.symm, h3, Nat.add_comm]
      · rw [if_neg h3, if_neg (show ¬ b.n = a.n from fun h => h3 h.symm)]
        by_cases h4 : y ≤ x
        · by_cases h5 : x ≤ y
          · rw [if_pos h4, if_pos h5, show x = y by omega, Nat.sub_self]; rfl
          · rw [if_pos h4, if_neg h5]
        · rw [if_neg h4, if_pos (by omega)]
theorem addP_comm (F : Fm) (md : Int) {c c' : Int} {n n' : Bool} {d d' : Dy} (hd : Nz d) (hd' : Nz d') : addP F md c n d c' n' d' = addP F md c' n' d' c n d := by
  unfold addP
  rw [addD_comm hd hd']
  by_cases h1 : c = 5 ∨ c' = 5
  · rw [if_pos h1, if_pos (show c' = 5 ∨ c = 5 by omega)]
  · rw [if_neg h1, if_neg (show ¬ (c' = 5 ∨ c = 5) by omega)]
    by_cases h2 : c = 4
    · by_cases h3 : c' = 4
      · by_cases h4 : n = n'
        · rw [if_neg (show ¬ (c = 4 ∧ c' = 4 ∧ n ≠ n') from fun h => h.2.2 h4), if_pos h2, if_neg (show ¬ (c' = 4 ∧ c = 4 ∧ n' ≠ n) from fun h => h.2.2 h4.symm), if_pos h3, h4]
        · rw [if_pos (show c = 4 ∧ c' = 4 ∧ n ≠ n' from ⟨h2, h3, h4⟩), if_pos (show c' = 4 ∧ c = 4 ∧ n' ≠ n from ⟨h3, h2, fun h => h4 h.symm⟩)]
      · rw [if_neg (show ¬ (c = 4 ∧ c' = 4 ∧ n ≠ n') by omega), if_pos h2, if_neg (show ¬ (c' = 4 ∧ c = 4 ∧ n' ≠ n) by omega), if_neg h3, if_pos h2]
    · rw [if_neg (show ¬ (c = 4 ∧ c' = 4 ∧ n ≠ n') by omega), if_neg h2, if_neg (show ¬ (c' = 4 ∧ c = 4 ∧ n' ≠ n) by omega)]
      by_cases h3 : c' = 4
      · rw [if_pos h3, if_pos h3]
      · rw [if_neg h3, if_neg h3, if_neg h2]
        by_cases h4 : c = 1 ∧ c' = 1 ∧ n = n'
        · rw [if_pos h4, if_pos (show c' = 1 ∧ c = 1 ∧ n' = n from ⟨h4.2.1, h4.1, h4.2.2.symm⟩), h4.2.2]
        · rw [if_neg h4, if_neg (show ¬ (c' = 1 ∧ c = 1 ∧ n' = n) from fun h => h4 ⟨h.2.1, h.1, h.2.2.symm⟩)]
def Fm.flip (F : Fm) (w : Nat) : Nat := w % F.sg + F.sgn (!F.ng w)
theorem flip_facts {F : Fm} {w : Nat} (h : w < 2 * F.sg) : F.flip w < 2 * F.sg ∧ F.ng (F.flip w) = !F.ng w ∧ F.cls (F.flip w) = F.cls w ∧ F.vl (F.flip w) = negD (F.vl w) := by
  have h0 : 0 < F.sg := by cases F <;> decide
  have h1 := Nat.mod_lt w h0
  obtain ⟨e1, e2⟩ := sgn_mod (F := F) (!F.ng w) h1
  have hx : F.ex (F.flip w) = F.ex w := by unfold Fm.ex Fm.flip; rw [e1]
  have hy : F.fc (F.flip w) = F.fc w := by unfold Fm.fc Fm.flip; rw [e1]
  refine ⟨?_, e2, ?_, ?_⟩
  · unfold Fm.flip Fm.sgn; split <;> omega
  · unfold Fm.cls; rw [hx, hy]
  · have hn : F.ng (F.flip w) = !F.ng w := e2
    have hff : F.fin (F.flip w) ↔ F.fin w := by unfold Fm.fin; rw [hx]
    unfold Fm.vl
    by_cases h3 : F.fin w
    · rw [if_pos h3, if_pos (hff.2 h3)]
      unfold Fm.val
      rw [hx, hy, hn]
      have hmk : ∀ (m : Nat) (e : Int), mkD (!F.ng w) m e = negD (mkD (F.ng w) m e) := fun m e => by
        by_cases hm : m = 0
        · subst hm; rfl
        · unfold negD; rw [if_neg (mkD_m0 hm e), mkD_pos hm, mkD_pos hm]
      split <;> exact hmk _ _
    · rw [if_neg h3, if_neg (fun h => h3 (hff.1 h))]; rfl
theorem subW_flip (F : Fm) (md : Int) {a b : Nat} (hb : b < 2 * F.sg) : subW F md a b = addW F md a (F.flip b) := by
  obtain ⟨h1, h2, h3, h4⟩ := flip_facts hb
  unfold subW addW; rw [h2, h3, h4]
theorem Nz_vl (F : Fm) (w : Nat) : Nz (F.vl w) := by
  unfold Fm.vl; split
  · unfold Fm.val; split <;> exact Nz_mk _ _ _
  · exact ⟨fun _ => rfl, fun h => absurd rfl h⟩
theorem Bd_vl (F : Fm) (w : Nat) : Bd (F.vl w) 4096 := by
  unfold Fm.vl; split
  · rename_i h; exact Bd_val F h
  · exact ⟨by simp only [blen_zero]; omega, by simp, by simp⟩
theorem fin_iff {F : Fm} {w : Nat} : F.fin w ↔ F.cls w = 1 ∨ F.cls w = 2 ∨ F.cls w = 3 := by
  have h1 := fin_cls F w
  have h2 := cls_range F w
  constructor
  · intro h; have := h1.1 h; omega
  · intro h; exact h1.2 (by omega)
theorem val_set_take {l : List Nat} {i v : Nat} (h : i < l.length) : val ((l.set i v).take (i + 1)) = val (l.take i) + 4294967296 ^ i * v := by
  rw [val_take_succ', List.take_set_of_le (Nat.le_refl i)]
  congr 2
  rw [dg_lt (by rw [List.length_set]; exact h), List.getElem_set_self]
theorem nAdd_loop (J : Al G T g) {A B : List Nat} {z y : Bool} {b : Nat} (hA : Dg A) (hB : Dg B) (hs : A.length < 17179869184) (ht : B.length ≤ A.length) : ∀ (m i : Nat) (h : Heap) (l : List Nat) (c : Nat),
    m + i = A.length → Holds h b l → Dg l → l.length = A.length + 1 → c ≤ 1 → val (l.take i) + 4294967296 ^ i * c = val (A.take i) + val (B.take i) →
    Post (evL G T c_nat_Add_l1 [(0, D z A), (1, D y B), (6, .own b 0 (A.length + 1) 1), (7, .int .u32 (c : Int)), (27, .int .i64 ((A.length : Nat) : Int)), (28, .int .i64 (i : Int))] h) fun r =>
      ∃ e h' l' c', r = (.exit 0, (0, D z A) :: (1, D y B) :: (6, .own b 0 (A.length + 1) 1) :: (7, .int .u32 ((c' : Nat) : Int)) :: e, h') ∧ Holds h' b l' ∧ Dg l' ∧ l'.length = A.length + 1 ∧ c' ≤ 1 ∧ val (l'.take A.length) + 4294967296 ^ A.length * c' = val A + val B
  | 0, i, h, l, c, hm, H, hd, hl, hc, he => by
    rw [s_loopc G T (c := c_nat_Add_l1) rfl]
    have h1 : ¬ (i : Int) < (A.length : Int) := by omega
    repeat (first | (simp (maxSteps := 1000000) only [seval, evB, c_nat_Add_b1, h1]) | (simp (disch := omega) only [dsB]))
    obtain rfl : i = A.length := by omega
    rw [List.take_length, List.take_of_length_le ht] at he
    exact Post.some ⟨_, _, _, _, rfl, H, hd, hl, hc, he⟩
  | m + 1, i, h, l, c, hm, H, hd, hl, hc, he => by
    rw [s_loopc G T (c := c_nat_Add_l1) rfl]
    have h1 : (i : Int) < (A.length : Int) := by omega
    have e7 : (i : Int) + 1 = ((i + 1 : Nat) : Int) := by omega
    have hx := hA.dg i
    have hy := hB.dg i
    have hil : i < l.length := by omega
    have hb := bits_Add32 J (x := dg A i) (y := dg B i) (w := c) (d := (dg A i + dg B i + c) % 4294967296) (z := (dg A i + dg B i + c) / 4294967296) hx hy hc (Nat.mod_lt _ (by decide)) (by omega) (by omega)
    have key : val ((l.set i ((dg A i + dg B i + c) % 4294967296)).take (i + 1)) + 4294967296 ^ (i + 1) * ((dg A i + dg B i + c) / 4294967296) = val (A.take (i + 1)) + val (B.take (i + 1)) := by
      rw [val_set_take hil, val_take_succ', val_take_succ', Nat.pow_succ, Nat.mul_assoc, Nat.add_assoc, ← Nat.mul_add, Nat.mod_add_div, Nat.mul_add, Nat.mul_add]
      omega
    have hz : (dg A i + dg B i + c) / 4294967296 ≤ 1 := by omega
    have hm1 : (dg A i + dg B i + c) % 4294967296 < 4294967296 := Nat.mod_lt _ (by decide)
    by_cases h2 : (i : Int) < (B.length : Int)
    · repeat (first | (simp (maxSteps := 1000000) only [seval, evB, c_nat_Add_b1, h1, h2, hb, e7 ]) | (simp (disch := omega) only [dsB,  store_n H]))
      exact nAdd_loop J hA hB hs ht m (i + 1) _ _ _ (by omega) (H.put _) (Dg_set hd hm1) (by rw [List.length_set]; exact hl) hz key
    · have hg : dg B i = 0 := dg_ge (by omega)
      rw [hg] at hb key hz hm1
      rw [cast0] at hb
      repeat (first | (simp (maxSteps := 1000000) only [seval, evB, c_nat_Add_b1, h1, h2, hb, e7 ]) | (simp (disch := omega) only [dsB,  store_n H]))
      exact nAdd_loop J hA hB hs ht m (i + 1) _ _ _ (by omega) (H.put _) (Dg_set hd hm1) (by rw [List.length_set]; exact hl) hz key
theorem nSub_loop (J : Al G T g) {A B : List Nat} {z y : Bool} {b : Nat} (hA : Dg A) (hB : Dg B) (hs : A.length < 17179869184) (ht : B.length ≤ A.length) : ∀ (m i : Nat) (h : Heap) (l : List Nat) (c : Nat),
    m + i = A.length → Holds h b l → Dg l → l.length = A.length → c ≤ 1 → val (l.take i) + val (B.take i) = val (A.take i) + 4294967296 ^ i * c →
    Post (evL G T c_nat_sub_l1 [(0, D z A), (1, D y B), (5, .own b 0 A.length 1), (6, .int .u32 (c : Int)), (13, .int .i64 ((A.length : Nat) : Int)), (14, .int .i64 (i : Int))] h) fun r =>
      ∃ e h' l' c', r = (.exit 0, (0, D z A) :: (1, D y B) :: (5, .own b 0 A.length 1) :: (6, .int .u32 ((c' : Nat) : Int)) :: e, h') ∧ Holds h' b l' ∧ Dg l' ∧ l'.length = A.length ∧ c' ≤ 1 ∧ val l' + val B = val A + 4294967296 ^ A.length * c'
  | 0, i, h, l, c, hm, H, hd, hl, hc, he => by
    rw [s_loopc G T (c := c_nat_sub_l1) rfl]
    have h1 : ¬ (i : Int) < (A.length : Int) := by omega
    repeat (first | (simp (maxSteps := 1000000) only [seval, evB, c_nat_sub_b1, h1]) | (simp (disch := omega) only [dsB]))
    obtain rfl : i = A.length := by omega
    rw [List.take_length, List.take_of_length_le ht, List.take_of_length_le (by omega)] at he
    exact Post.some ⟨_, _, _, _, rfl, H, hd, hl, hc, he⟩
  | m + 1, i, h, l, c, hm, H, hd, hl, hc, he => by
    rw [s_loopc G T (c := c_nat_sub_l1) rfl]
    have h1 : (i : Int) < (A.length : Int) := by omega
    have e7 : (i : Int) + 1 = ((i + 1 : Nat) : Int) := by omega
    have hx := hA.dg i
    have hy := hB.dg i
    have hil : i < l.length := by omega
    obtain ⟨d, q, hdq, hd1, hq⟩ : ∃ d q, d + dg B i + c = dg A i + 4294967296 * q ∧ d < 4294967296 ∧ q ≤ 1 := by
      by_cases hlt : dg A i < dg B i + c
      · exact ⟨dg A i + 4294967296 - (dg B i + c), 1, by omega, by omega, by omega⟩
      · exact ⟨dg A i - (dg B i + c), 0, by omega, by omega, by omega⟩
    have hb := bits_Sub32 J (x := dg A i) (y := dg B i) (w := c) (d := d) (z := q) hx hy hc hd1 hq hdq
    have key : val ((l.set i d).take (i + 1)) + val (B.take (i + 1)) = val (A.take (i + 1)) + 4294967296 ^ (i + 1) * q := by
      rw [val_set_take hil, val_take_succ', val_take_succ', Nat.pow_succ, Nat.mul_assoc]
      have h2 : 4294967296 ^ i * d + 4294967296 ^ i * dg B i + 4294967296 ^ i * c = 4294967296 ^ i * dg A i + 4294967296 ^ i * (4294967296 * q) := by
        rw [← Nat.mul_add, ← Nat.mul_add, ← Nat.mul_add, hdq]
      omega
    by_cases h2 : (i : Int) < (B.length : Int)
    · repeat (first | (simp (maxSteps := 1000000) only [seval, evB, c_nat_sub_b1, h1, h2, hb, e7 ]) | (simp (disch := omega) only [dsB,  store_n H]))
      exact nSub_loop J hA hB hs ht m (i + 1) _ _ _ (by omega) (H.put _) (Dg_set hd hd1) (by rw [List.length_set]; exact hl) hq key
    · have hg : dg B i = 0 := dg_ge (by omega)
      rw [hg, cast0] at hb
      repeat (first | (simp (maxSteps := 1000000) only [seval, evB, c_nat_sub_b1, h1, h2, hb, e7 ]) | (simp (disch := omega) only [dsB,  store_n H]))
      exact nSub_loop J hA hB hs ht m (i + 1) _ _ _ (by omega) (H.put _) (Dg_set hd hd1) (by rw [List.length_set]; exact hl) hq key
theorem nat_bound (J : Al G T g) {z : Bool} {l : List Nat} (h : l.length ≤ 4096) : run G T 117 [D z l] = some (.tup [D z l, .int .i64 0]) := by
  rw [run_k G T J.A.nat_bound]
  have h1 : ¬ (4096 : Int) < (l.length : Int) := by omega
  repeat (first | (simp (maxSteps := 1000000) only [seval, evB, c_nat_bound, h1]) | (simp (disch := omega) only [dsB]))
theorem nat_sub (J : Al G T g) {z y : Bool} {a b : Nat} (ha : (dl a).length < 17179869184) (hab : b ≤ a) : ∃ z', run G T 116 [D z (dl a), D y (dl b)] = some (D z' (dl (a - b))) := by
  have hlen : (dl b).length ≤ (dl a).length := by
    rw [dl_len]; exact Nat.lt_of_le_of_lt hab (dl_len.1 (Nat.le_refl _))
  obtain ⟨_, hr, e, h', l', c', rfl, H, hd, hl, hc, hv⟩ := nSub_loop (G := G) (T := T) (z := z) (y := y) (b := Heap.nil.b.length) J (Dg_dl a) (Dg_dl b) ha hlen (dl a).length 0 (new .nil (List.replicate (dl a).length 0)) _ 0 (by omega) (Holds_new FreH.nil _) (Dg_rep _) (by rw [List.length_replicate]) (by omega) (by simp [val])
  rw [cast0] at hr
  rw [val_dl, val_dl] at hv
  have hlt := val_lt hd
  have hc0 : c' = 0 := by
    rcases Nat.eq_zero_or_pos c' with q | q
    · exact q
    · have : c' = 1 := by omega
      rw [this, Nat.mul_one, ← hl] at hv; omega
  rw [hc0, Nat.mul_zero, Nat.add_zero] at hv
  have hv2 : val l' = a - b := by omega
  have hsn := snap_own H (n := (dl a).length) (by omega)
  rw [← hl, List.take_length] at hsn
  obtain ⟨z', hz⟩ := nat_trim J (z := false) hd (by omega)
  rw [hl] at hsn
  refine ⟨z', ?_⟩
  rw [run_k G T J.A.nat_sub, ← hv2]
  repeat (first | (simp (maxSteps := 1000000) only [seval, evB, c_nat_sub, hr, hsn, hz]) | (simp (disch := omega) only [dsB]))
theorem nat_Sub (J : Al G T g) {z y : Bool} {a b : Nat} (ha : mayL (dl a) = true) (hb : mayL (dl b) = true) (hab : b ≤ a) : ∃ z', run G T 103 [D z (dl a), D y (dl b)] = some (.tup [D z' (dl (a - b)), .int .i64 0]) := by
  have la := (mayL_iff.1 ha).1
  have lb := (mayL_iff.1 hb).1
  have h1 := nat_all (G := G) J (z := z) (y := y) (a := dl a) (b := dl b)
  rw [ha, hb, Bool.and_self] at h1
  have h2 := nat_cmp (G := G) J (z := z) (y := y) (a := a) (b := b) (by omega) (by omega)
  have h3 : ¬ cmpN a b < 0 := by rw [cmpN_neg]; omega
  obtain ⟨z', h4⟩ := nat_sub J (z := z) (y := y) (a := a) (b := b) (by omega) hab
  refine ⟨z', ?_⟩
  rw [run_k G T J.A.nat_Sub]
  repeat' (first | (simp (maxSteps := 1000000) only [seval, evB, exB, c_nat_Sub, h1, h2, h3, h4]) | (simp (maxSteps := 1000000) (disch := first | with_reducible assumption | omega) only [dxB]) | (simp only [kI_d, kG_dt, kG_df]; split) | (simp only [kI_v, kG_vt, kG_vf]; split))
theorem nat_Cmp (J : Al G T g) {z y : Bool} {a b : Nat} (ha : mayL (dl a) = true) (hb : mayL (dl b) = true) : run G T 104 [D z (dl a), D y (dl b)] = some (.tup [.int .i64 (cmpN a b), .int .i64 0]) := by
  have la := (mayL_iff.1 ha).1
  have lb := (mayL_iff.1 hb).1
  have h1 := nat_all (G := G) J (z := z) (y := y) (a := dl a) (b := dl b)
  rw [ha, hb, Bool.and_self] at h1
  have h2 := nat_cmp (G := G) J (z := z) (y := y) (a := a) (b := b) (by omega) (by omega)
  rw [run_k G T J.A.nat_Cmp]
  repeat' (first | (simp (maxSteps := 1000000) only [seval, evB, exB, c_nat_Cmp, h1, h2]) | (simp (maxSteps := 1000000) (disch := first | with_reducible assumption | omega) only [dxB]) | (simp only [kI_d, kG_dt, kG_df]; split) | (simp only [kI_v, kG_vt, kG_vf]; split))
theorem nat_Add_ord (J : Al G T g) {z y : Bool} {a b : Nat} (ha : mayL (dl a) = true) (hb : mayL (dl b) = true) (hab : (dl b).length ≤ (dl a).length) (hs : (dl (a + b)).length ≤ 4096) : ∃ z', run G T 105 [D z (dl a), D y (dl b)] = some (.tup [D z' (dl (a + b)), .int .i64 0]) := by
  have la := (mayL_iff.1 ha).1
  have lb := (mayL_iff.1 hb).1
  have h1 := nat_all (G := G) J (z := z) (y := y) (a := dl a) (b := dl b)
  rw [ha, hb, Bool.and_self] at h1
  have h2 : ¬ ((dl a).length : Int) < ((dl b).length : Int) := by omega
  obtain ⟨_, hr, e, h', l', c', rfl, H, hd, hl, hc, hv⟩ := nAdd_loop (G := G) (T := T) (z := z) (y := y) (b := 1) J (Dg_dl a) (Dg_dl b) (by omega) hab (dl a).length 0 (new ⟨[⟨[D z (dl a), D y (dl b)], false⟩], fz1 (AV.bool true) [0]⟩ (List.replicate ((dl a).length + 1) 0)) _ 0 (by omega) (Holds_new (h := ⟨[⟨[D z (dl a), D y (dl b)], false⟩], fz1 (AV.bool true) [0]⟩) (fun _ h => absurd h List.not_mem_nil) _) (Dg_rep _) (by rw [List.length_replicate]) (by omega) (by simp [val])
  rw [cast0] at hr
  rw [val_dl, val_dl] at hv
  have hil : (dl a).length < l'.length := by omega
  have hvs := val_set_take (v := c') hil
  rw [hv, List.take_of_length_le (by rw [List.length_set]; omega)] at hvs
  have H2 := H.put (l'.set (dl a).length c')
  have hd2 : Dg (l'.set (dl a).length c') := Dg_set hd (by omega)
  have hl2 : (l'.set (dl a).length c').length = (dl a).length + 1 := by rw [List.length_set]; exact hl
  have hsn := snap_own H2 (n := (dl a).length + 1) (by omega)
  rw [← hl2, List.take_length] at hsn
  obtain ⟨z', hz⟩ := nat_trim J (z := false) hd2 (by omega)
  rw [hl2] at hsn
  rw [hvs] at hz
  have hbd := nat_bound J (z := z') hs
  have e8 : ((dl a).length : Int) + 1 = (((dl a).length + 1 : Nat) : Int) := by omega
  refine ⟨z', ?_⟩
  rw [run_k G T J.A.nat_Add]
  repeat' (first | (simp (maxSteps := 1000000) only [seval, evB, exB, c_nat_Add, h1, h2, e8, hr, hsn, hz, hbd ]) | (simp (maxSteps := 1000000) (disch := first | with_reducible assumption | omega) only [dxB,  store_n H]) | (simp only [kI_d, kG_dt, kG_df]; split) | (simp only [kI_v, kG_vt, kG_vf]; split))
theorem nat_Add (J : Al G T g) {z y : Bool} {a b : Nat} (ha : mayL (dl a) = true) (hb : mayL (dl b) = true) (hs : (dl (a + b)).length ≤ 4096) : ∃ z', run G T 105 [D z (dl a), D y (dl b)] = some (.tup [D z' (dl (a + b)), .int .i64 0]) := by
  have la := (mayL_iff.1 ha).1
  have lb := (mayL_iff.1 hb).1
  by_cases hab : (dl b).length ≤ (dl a).length
  · exact nat_Add_ord J ha hb hab hs
  have h1 := nat_all (G := G) J (z := z) (y := y) (a := dl a) (b := dl b)
  rw [ha, hb, Bool.and_self] at h1
  have h2 : ((dl a).length : Int) < ((dl b).length : Int) := by omega
  obtain ⟨_, hr, e, h', l', c', rfl, H, hd, hl, hc, hv⟩ := nAdd_loop (G := G) (T := T) (z := y) (y := z) (b := 1) J (Dg_dl b) (Dg_dl a) (by omega) (by omega) (dl b).length 0 (new ⟨[⟨[D z (dl a), D y (dl b)], false⟩], fz1 (AV.bool true) [0]⟩ (List.replicate ((dl b).length + 1) 0)) _ 0 (by omega) (Holds_new (h := ⟨[⟨[D z (dl a), D y (dl b)], false⟩], fz1 (AV.bool true) [0]⟩) (fun _ h => absurd h List.not_mem_nil) _) (Dg_rep _) (by rw [List.length_replicate]) (by omega) (by simp [val])
  rw [cast0] at hr
  rw [val_dl, val_dl, Nat.add_comm b a] at hv
  have hil : (dl b).length < l'.length := by omega
  have hvs := val_set_take (v := c') hil
  rw [hv, List.take_of_length_le (by rw [List.length_set]; omega)] at hvs
  have H2 := H.put (l'.set (dl b).length c')
  have hd2 : Dg (l'.set (dl b).length c') := Dg_set hd (by omega)
  have hl2 : (l'.set (dl b).length c').length = (dl b).length + 1 := by rw [List.length_set]; exact hl
  have hsn := snap_own H2 (n := (dl b).length + 1) (by omega)
  rw [← hl2, List.take_length] at hsn
  obtain ⟨z', hz⟩ := nat_trim J (z := false) hd2 (by omega)
  rw [hl2] at hsn
  rw [hvs] at hz
  have hbd := nat_bound J (z := z') hs
  have e8 : ((dl b).length : Int) + 1 = (((dl b).length + 1 : Nat) : Int) := by omega
  refine ⟨z', ?_⟩
  rw [run_k G T J.A.nat_Add]
  repeat' (first | (simp (maxSteps := 1000000) only [seval, evB, exB, c_nat_Add, h1, h2, e8, hr, hsn, hz, hbd ]) | (simp (maxSteps := 1000000) (disch := first | with_reducible assumption | omega) only [dxB,  store_n H]) | (simp only [kI_d, kG_dt, kG_df]; split) | (simp only [kI_v, kG_vt, kG_vf]; split))
theorem blen_mulC {x y a b : Nat} (hx : blen x ≤ a) (hy : blen y ≤ b) : blen (x * y) ≤ a + b := by
  refine blen_le.2 ?_
  rw [Nat.pow_add]
  exact Nat.mul_lt_mul_of_lt_of_lt (blen_le.1 hx) (blen_le.1 hy)
theorem nat_Mul (J : Al G T g) {z y : Bool} {a b : Nat} (ha : mayL (dl a) = true) (hb : mayL (dl b) = true) (hs : (dl a).length + (dl b).length ≤ 4096) : ∃ z', run G T 197 [D z (dl a), D y (dl b)] = some (.tup [D z' (dl (a * b)), .int .i64 0]) := by
  have h1 := nat_all (G := G) J (z := z) (y := y) (a := dl a) (b := dl b)
  rw [ha, hb, Bool.and_self] at h1
  obtain ⟨z', h2⟩ := nat_mul J (z := z) (y := y) (a := a) (b := b) (by omega)
  have hl : (dl (a * b)).length ≤ 4096 := by
    have e1 := dl_len.1 (Nat.le_refl (dl a).length)
    have e2 := dl_len.1 (Nat.le_refl (dl b).length)
    have : (dl (a * b)).length ≤ (dl a).length + (dl b).length := by
      rw [dl_len, Nat.pow_add]; exact Nat.mul_lt_mul_of_lt_of_lt e1 e2
    omega
  have h3 := nat_bound J (z := z') hl
  have c1 : ¬ (4096 : Int) < ((dl a).length : Int) + ((dl b).length : Int) - 1 := by omega
  refine ⟨z', ?_⟩
  rw [run_k G T J.U.nat_Mul]
  by_cases k1 : (0 : Int) < ((dl a).length : Int)
  · by_cases k2 : (0 : Int) < ((dl b).length : Int)
    · repeat' (first | (simp (maxSteps := 1000000) only [seval, evB, exB, c_nat_Mul, h1, h2, h3, c1, k1, k2]) | (simp (maxSteps := 1000000) (disch := first | with_reducible assumption | omega) only [dxB]) | (simp only [kI_d, kG_dt, kG_df]; split) | (simp only [kI_v, kG_vt, kG_vf]; split))
    · repeat' (first | (simp (maxSteps := 1000000) only [seval, evB, exB, c_nat_Mul, h1, h2, h3, c1, k1, k2]) | (simp (maxSteps := 1000000) (disch := first | with_reducible assumption | omega) only [dxB]) | (simp only [kI_d, kG_dt, kG_df]; split) | (simp only [kI_v, kG_vt, kG_vf]; split))
  · repeat' (first | (simp (maxSteps := 1000000) only [seval, evB, exB, c_nat_Mul, h1, h2, h3, c1, k1]) | (simp (maxSteps := 1000000) (disch := first | with_reducible assumption | omega) only [dxB]) | (simp only [kI_d, kG_dt, kG_df]; split) | (simp only [kI_v, kG_vt, kG_vf]; split))
theorem dyad_own (J : Al G T g) {n z : Bool} {l : List Nat} {e : Int} (hl : l.length < 549755813888) : ∃ z', run G T 205 [A3 n (D z l) e] = some (A3 n (D z' l) e) := by
  apply exP
  rw [run_k G T J.U.dyad_own]
  cases l with
  | nil =>
    simp only [A3] at *
    repeat' (first | (simp (maxSteps := 1000000) only [seval, evB, exB, c_dyad_own, app_nil0]) | (simp (maxSteps := 1000000) (disch := first | with_reducible assumption | omega) only [dxB]) | (simp only [kI_d, kG_dt, kG_df]; split) | (simp only [kI_v, kG_vt, kG_vf]; split))
    exact ⟨_, rfl, true, rfl⟩
  | cons a l =>
    have ha : appV ⟨[⟨[.bool n, D z (a :: l), .int .i64 e], false⟩, ⟨[.bool false, .nil, .int .i64 0], false⟩], []⟩ 1 4 .nil (D z (a :: l)) =
        some (.own 2 0 (a :: l).length 1, ⟨[⟨[.bool n, D z (a :: l), .int .i64 e], false⟩, ⟨[.bool false, .nil, .int .i64 0], false⟩, ⟨cells (a :: l), false⟩], []⟩) :=
      app_nil (h := ⟨[⟨[.bool n, D z (a :: l), .int .i64 e], false⟩, ⟨[.bool false, .nil, .int .i64 0], false⟩], []⟩) (z := z) (l := a :: l) (by simp) hl
    simp only [A3] at *
    have hsub : sub (cells (a :: l)) 0 (l.length + 1) = some (cells (a :: l)) := sub_all (a :: l)
    repeat' (first | (simp (maxSteps := 1000000) only [seval, evB, exB, c_dyad_own, ha, hsub, sl_cells]) | (simp (maxSteps := 1000000) (disch := first | with_reducible assumption | omega) only [dxB]) | (simp only [kI_d, kG_dt, kG_df]; split) | (simp only [kI_v, kG_vt, kG_vf]; split))
    exact ⟨_, rfl, false, rfl⟩
theorem dyad_signed (J : Al G T g) {n z s : Bool} {l : List Nat} {e : Int} (hl : l.length < 549755813888) : ∃ z', run G T 198 [A3 n (D z l) e, .bool s] = some (A3 (s && decide (0 < l.length)) (D z' l) e) := by
  obtain ⟨z', h1⟩ := dyad_own J (n := n) (z := z) (l := l) (e := e) hl
  refine ⟨z', ?_⟩
  rw [run_k G T J.U.dyad_signed]
  have e1 : decide ((0 : Int) < (l.length : Int)) = decide (0 < l.length) := by congr 1; apply propext; omega
  simp only [A3] at *
  cases s <;> (repeat' (first | (simp (maxSteps := 1000000) only [seval, evB, exB, c_dyad_signed, h1, e1]) | (simp (maxSteps := 1000000) (disch := first | with_reducible assumption | omega) only [dxB]) | (simp only [kI_d, kG_dt, kG_df]; split) | (simp only [kI_v, kG_vt, kG_vf]; split)); all_goals try rfl)
theorem dyad_Neg (J : Al G T g) {z : Bool} {d : Dy} (hd : mayD d.n (dl d.m) d.e = true) : ∃ z', run G T 184 [DyA z d] = some (.tup [DyA z' (negD d), .int .i64 0]) := by
  obtain ⟨f1, f2, f3, f4, f5⟩ := mayD_facts hd
  have hl := (mayL_iff.1 f1).1
  have h1 := dyad_May J d.n z (Dg_dl d.m) d.e
  rw [hd] at h1
  obtain ⟨z', h2⟩ := dyad_signed J (n := d.n) (z := z) (s := !d.n) (l := dl d.m) (e := d.e) (by omega)
  refine ⟨z', ?_⟩
  have hv : A3 (!d.n && decide (0 < (dl d.m).length)) (D z' (dl d.m)) d.e = DyA z' (negD d) := by
    by_cases h0 : d.m = 0
    · have hz := f2 (dl_len0.2 h0)
      unfold negD
      rw [if_pos h0, DyA, hz.1, h0, dl_zero]; rfl
    · rw [neg_nm h0]
      have : 0 < (dl d.m).length := Nat.pos_of_ne_zero (fun hc => h0 (dl_len0.1 hc))
      rw [decide_eq_true this, Bool.and_true]; rfl
  rw [hv] at h2
  rw [run_k G T J.U.dyad_Neg]
  obtain ⟨n, m, e⟩ := d
  simp only [DyA, A3] at *
  cases n <;> (simp only [Bool.not_true, Bool.not_false] at h2; repeat' (first | (simp (maxSteps := 1000000) only [seval, evB, exB, c_dyad_Neg, h1, h2]) | (simp (maxSteps := 1000000) (disch := first | with_reducible assumption | omega) only [dxB]) | (simp only [kI_d, kG_dt, kG_df]; split) | (simp only [kI_v, kG_vt, kG_vf]; split)))
def joinD (p : Bool) (x : Nat) (q : Bool) (y : Nat) (e : Int) : Dy := if p = q then mkD p (x + y) e else if y ≤ x then mkD p (x - y) e else mkD q (y - x) e
theorem mk_rng {m : Nat} {e : Int} (hb : blen m ≤ 131072) (he : -16000000 < e ∧ e < 16000000) : m = 0 ∨ (-16777216 ≤ e + (tz m : Int) ∧ e + (tz m : Int) ≤ 16777216) := by
  by_cases h0 : m = 0
  · exact Or.inl h0
  · right; have := tz_blen h0; omega
theorem blen_add {x y : Nat} {K : Nat} (hx : blen x ≤ K) (hy : blen y ≤ K) : blen (x + y) ≤ K + 1 := by
  refine blen_le.2 ?_
  have h1 := blen_le.1 hx
  have h2 := blen_le.1 hy
  rw [Nat.pow_succ]; omega
theorem dyad_join (J : Al G T g) {p q z y : Bool} {x w : Nat} {e : Int} (hx : blen x ≤ 131071) (hw : blen w ≤ 131071) (he : -16000000 < e ∧ e < 16000000) :
    ∃ z', run G T 208 [.bool p, D z (dl x), .bool q, D y (dl w), .int .i64 e] = some (.tup [DyA z' (joinD p x q w e), .int .i64 0]) := by
  have mx : mayL (dl x) = true := mayL_small (by omega)
  have mw : mayL (dl w) = true := mayL_small (by omega)
  have hxw := blen_add hx hw
  by_cases h1 : p = q
  · have hl := dl_len_blen (x + w)
    obtain ⟨z1, a1⟩ := nat_Add J (z := z) (y := y) (a := x) (b := w) mx mw (by omega)
    obtain ⟨z2, a2⟩ := dyad_Make J (n := p) (z := z1) (a := x + w) (e := e) (mayL_small (by omega)) (mk_rng (by omega) he) (by omega)
    refine ⟨z2, ?_⟩
    unfold joinD
    rw [if_pos h1, run_k G T J.U.dyad_join]
    simp only [DyA, A3] at *
    subst h1
    cases p <;> repeat' (first | (simp (maxSteps := 1000000) only [seval, evB, exB, c_dyad_join, a1, a2]) | (simp (maxSteps := 1000000) (disch := first | with_reducible assumption | omega) only [dxB]) | (simp only [kI_d, kG_dt, kG_df]; split) | (simp only [kI_v, kG_vt, kG_vf]; split))
  · have c0 := nat_Cmp J (z := z) (y := y) (a := x) (b := w) mx mw
    by_cases h2 : w ≤ x
    · have hb := blen_mono (Nat.sub_le x w)
      have c1 : ¬ cmpN x w < 0 := by rw [cmpN_neg]; omega
      obtain ⟨z1, a1⟩ := nat_Sub J (z := z) (y := y) (a := x) (b := w) mx mw h2
      obtain ⟨z2, a2⟩ := dyad_Make J (n := p) (z := z1) (a := x - w) (e := e) (mayL_small (by omega)) (mk_rng (by omega) he) (by omega)
      refine ⟨z2, ?_⟩
      unfold joinD
      rw [if_neg h1, if_pos h2, run_k G T J.U.dyad_join]
      simp only [DyA, A3] at *
      cases p <;> cases q <;> first | (exact absurd rfl h1) | (repeat' (first | (simp (maxSteps := 1000000) only [seval, evB, exB, c_dyad_join, c0, c1, a1, a2]) | (simp (maxSteps := 1000000) (disch := first | with_reducible assumption | omega) only [dxB]) | (simp only [kI_d, kG_dt, kG_df]; split) | (simp only [kI_v, kG_vt, kG_vf]; split)))
    · have hb := blen_mono (Nat.sub_le w x)
      have c1 : cmpN x w < 0 := by rw [cmpN_neg]; omega
      obtain ⟨z1, a1⟩ := nat_Sub J (z := y) (y := z) (a := w) (b := x) mw mx (by omega)
      obtain ⟨z2, a2⟩ := dyad_Make J (n := q) (z := z1) (a := w - x) (e := e) (mayL_small (by omega)) (mk_rng (by omega) he) (by omega)
      refine ⟨z2, ?_⟩
      unfold joinD
      rw [if_neg h1, if_neg h2, run_k G T J.U.dyad_join]
      simp only [DyA, A3] at *
      cases p <;> cases q <;> first | (exact absurd rfl h1) | (repeat' (first | (simp (maxSteps := 1000000) only [seval, evB, exB, c_dyad_join, c0, c1, a1, a2]) | (simp (maxSteps := 1000000) (disch := first | with_reducible assumption | omega) only [dxB]) | (simp only [kI_d, kG_dt, kG_df]; split) | (simp only [kI_v, kG_vt, kG_vf]; split)))
theorem joinD_add {a b : Dy} (ha : a.m ≠ 0) (hb : b.m ≠ 0) (he : b.e ≤ a.e) : joinD a.n (a.m * 2 ^ (a.e - b.e).toNat) b.n b.m b.e = addD a b := by
  unfold joinD addD
  rw [if_neg ha, if_neg hb, Int.min_eq_right he, show (b.e - b.e).toNat = 0 by omega, Nat.pow_zero, Nat.mul_one]
theorem dyad_add_ord (J : Al G T g) {z y : Bool} {a b : Dy} (ha : Bd a 16384) (hb : Bd b 16384) (na : a.m ≠ 0) (nb : b.m ≠ 0) (he : b.e ≤ a.e) :
    ∃ z', run G T 203 [DyA z a, DyA y b] = some (.tup [DyA z' (addD a b), .int .i64 0]) := by
  obtain ⟨a1, a2, a3⟩ := ha
  obtain ⟨b1, b2, b3⟩ := hb
  have ma : mayL (dl a.m) = true := mayL_small (by omega)
  have l1 := nat_Len J (z := z) ma
  obtain ⟨z1, s1⟩ := nat_Shift_up J (z := z) (a := a.m) (n := (a.e - b.e).toNat) ma (Or.inr (by omega)) (by omega)
  rw [show (((a.e - b.e).toNat : Nat) : Int) = a.e - b.e by omega] at s1
  have hbl := blen_mul na (a.e - b.e).toNat
  obtain ⟨z2, j1⟩ := dyad_join J (p := a.n) (q := b.n) (z := z1) (y := y) (x := a.m * 2 ^ (a.e - b.e).toNat) (w := b.m) (e := b.e) (by omega) (by omega) (by omega)
  rw [joinD_add na nb he] at j1
  have c1 : ¬ ((dl a.m).length : Int) = 0 := fun hc => na (dl_len0.1 (by omega))
  have c2 : ¬ ((dl b.m).length : Int) = 0 := fun hc => nb (dl_len0.1 (by omega))
  have c3 : ¬ a.e < b.e := by omega
  have w1 : IntKind.i64.wrap (a.e - b.e) = a.e - b.e := wrap_i64 (by omega)
  have w2 : IntKind.i64.wrap (a.e - b.e + (blen a.m : Int)) = a.e - b.e + (blen a.m : Int) := wrap_i64 (by omega)
  have c4 : ¬ (131073 : Int) < a.e - b.e + (blen a.m : Int) := by omega
  have c5 : ¬ (131072 : Int) < a.e - b.e + (blen a.m : Int) := by omega
  refine ⟨z2, ?_⟩
  rw [run_k G T J.U.dyad_add]
  generalize addD a b = d at *
  obtain ⟨n, m, e⟩ := a
  obtain ⟨n', m', e'⟩ := b
  clear hbl a1 a2 a3 b1 b2 b3
  simp only [DyA, A3] at *
  repeat' (first | (simp (maxSteps := 1000000) only [seval, evB, exB, c_dyad_add, c1, c2, c3, c4, c5, w1, w2, l1, s1, j1]) | (simp (maxSteps := 1000000) (disch := first | with_reducible assumption | omega) only [dxB]) | (simp only [kI_d, kG_dt, kG_df]; split) | (simp only [kI_v, kG_vt, kG_vf]; split))
theorem dyad_add (J : Al G T g) {z y : Bool} {a b : Dy} (ha : Bd a 16384) (hb : Bd b 16384) (za : Nz a) (zb : Nz b) :
    ∃ z', run G T 203 [DyA z a, DyA y b] = some (.tup [DyA z' (addD a b), .int .i64 0]) := by
  by_cases na : a.m = 0
  · have hl := dl_len_blen b.m
    have hbl := hb.bl
    obtain ⟨z1, h1⟩ := dyad_own J (n := b.n) (z := y) (l := dl b.m) (e := b.e) (by omega)
    have c1 : ((dl a.m).length : Int) = 0 := by have := dl_len0.2 na; omega
    refine ⟨z1, ?_⟩
    rw [run_k G T J.U.dyad_add]
    unfold addD
    rw [if_pos na]
    obtain ⟨n, m, e⟩ := a
    obtain ⟨n', m', e'⟩ := b
    simp only [DyA, A3] at *
    repeat' (first | (simp (maxSteps := 1000000) only [seval, evB, exB, c_dyad_add, c1, h1]) | (simp (maxSteps := 1000000) (disch := first | with_reducible assumption | omega) only [dxB]) | (simp only [kI_d, kG_dt, kG_df]; split) | (simp only [kI_v, kG_vt, kG_vf]; split))
  · by_cases nb : b.m = 0
    · have hl := dl_len_blen a.m
      have hbl := ha.bl
      obtain ⟨z1, h1⟩ := dyad_own J (n := a.n) (z := z) (l := dl a.m) (e := a.e) (by omega)
      have c1 : ¬ ((dl a.m).length : Int) = 0 := fun hc => na (dl_len0.1 (by omega))
      have c2 : ((dl b.m).length : Int) = 0 := by have := dl_len0.2 nb; omega
      refine ⟨z1, ?_⟩
      rw [run_k G T J.U.dyad_add]
      unfold addD
      rw [if_neg na, if_pos nb]
      obtain ⟨n, m, e⟩ := a
      obtain ⟨n', m', e'⟩ := b
      simp only [DyA, A3] at *
      repeat' (first | (simp (maxSteps := 1000000) only [seval, evB, exB, c_dyad_add, c1, c2, h1]) | (simp (maxSteps := 1000000) (disch := first | with_reducible assumption | omega) only [dxB]) | (simp only [kI_d, kG_dt, kG_df]; split) | (simp only [kI_v, kG_vt, kG_vf]; split))
    · by_cases he : b.e ≤ a.e
      · exact dyad_add_ord J ha hb na nb he
      · obtain ⟨a1, a2, a3⟩ := ha
        obtain ⟨b1, b2, b3⟩ := hb
        have mb : mayL (dl b.m) = true := mayL_small (by omega)
        have l1 := nat_Len J (z := y) mb
        obtain ⟨z1, s1⟩ := nat_Shift_up J (z := y) (a := b.m) (n := (b.e - a.e).toNat) mb (Or.inr (by omega)) (by omega)
        rw [show (((b.e - a.e).toNat : Nat) : Int) = b.e - a.e by omega] at s1
        have hbl := blen_mul nb (b.e - a.e).toNat
        obtain ⟨z2, j1⟩ := dyad_join J (p := b.n) (q := a.n) (z := z1) (y := z) (x := b.m * 2 ^ (b.e - a.e).toNat) (w := a.m) (e := a.e) (by omega) (by omega) (by omega)
        rw [joinD_add nb na (by omega), addD_comm zb za] at j1
        have c1 : ¬ ((dl a.m).length : Int) = 0 := fun hc => na (dl_len0.1 (by omega))
        have c2 : ¬ ((dl b.m).length : Int) = 0 := fun hc => nb (dl_len0.1 (by omega))
        have c3 : a.e < b.e := by omega
        have w1 : IntKind.i64.wrap (b.e - a.e) = b.e - a.e := wrap_i64 (by omega)
        have w2 : IntKind.i64.wrap (b.e - a.e + (blen b.m : Int)) = b.e - a.e + (blen b.m : Int) := wrap_i64 (by omega)
        have c4 : ¬ (131073 : Int) < b.e - a.e + (blen b.m : Int) := by omega
        have c5 : ¬ (131072 : Int) < b.e - a.e + (blen b.m : Int) := by omega
        refine ⟨z2, ?_⟩
        rw [run_k G T J.U.dyad_add]
        generalize addD a b = d at *
        obtain ⟨n, m, e⟩ := a
        obtain ⟨n', m', e'⟩ := b
        clear hbl a1 a2 a3 b1 b2 b3
        simp only [DyA, A3] at *
        repeat' (first | (simp (maxSteps := 1000000) only [seval, evB, exB, c_dyad_add, c1, c2, c3, c4, c5, w1, w2, l1, s1, j1]) | (simp (maxSteps := 1000000) (disch := first | with_reducible assumption | omega) only [dxB]) | (simp only [kI_d, kG_dt, kG_df]; split) | (simp only [kI_v, kG_vt, kG_vf]; split))
theorem dyad_Add (J : Al G T g) {z y : Bool} {a b : Dy} (ha : Bd a 16384) (hb : Bd b 16384) (da : mayD a.n (dl a.m) a.e = true) (db : mayD b.n (dl b.m) b.e = true) :
    ∃ z', run G T 195 [DyA z a, DyA y b] = some (.tup [DyA z' (addD a b), .int .i64 0]) := by
  have h1 := dyad_both J (n := a.n) (z := z) (n' := b.n) (z' := y) (Dg_dl a.m) (Dg_dl b.m) (e := a.e) (e' := b.e)
  rw [da, db, Bool.and_self] at h1
  obtain ⟨z', h2⟩ := dyad_add J (z := z) (y := y) ha hb (mayD_nz da) (mayD_nz db)
  refine ⟨z', ?_⟩
  rw [run_k G T J.U.dyad_Add]
  generalize addD a b = d at *
  obtain ⟨n, m, e⟩ := a
  obtain ⟨n', m', e'⟩ := b
  simp only [DyA, A3] at *
  repeat' (first | (simp (maxSteps := 1000000) only [seval, evB, exB, c_dyad_Add, h1, h2]) | (simp (maxSteps := 1000000) (disch := first | with_reducible assumption | omega) only [dxB]) | (simp only [kI_d, kG_dt, kG_df]; split) | (simp only [kI_v, kG_vt, kG_vf]; split))
theorem dyad_Mul (J : Al G T g) {z y : Bool} {a b : Dy} (ha : Bd a 16384) (hb : Bd b 16384) (da : mayD a.n (dl a.m) a.e = true) (db : mayD b.n (dl b.m) b.e = true) :
    ∃ z', run G T 182 [DyA z a, DyA y b] = some (.tup [DyA z' (mulD a b), .int .i64 0]) := by
  have h1 := dyad_both J (n := a.n) (z := z) (n' := b.n) (z' := y) (Dg_dl a.m) (Dg_dl b.m) (e := a.e) (e' := b.e)
  rw [da, db, Bool.and_self] at h1
  obtain ⟨a1, a2, a3⟩ := ha
  obtain ⟨b1, b2, b3⟩ := hb
  have hl1 := dl_len_blen a.m
  have hl2 := dl_len_blen b.m
  obtain ⟨z1, h2⟩ := nat_Mul J (z := z) (y := y) (a := a.m) (b := b.m) (mayL_small (by omega)) (mayL_small (by omega)) (by omega)
  have hb : blen (a.m * b.m) ≤ 32768 := by have := blen_mulC a1 b1; omega
  obtain ⟨z2, h3⟩ := dyad_Make J (n := a.n != b.n) (z := z1) (a := a.m * b.m) (e := a.e + b.e) (mayL_small (by omega)) (mk_rng (by omega) (by omega)) (by omega)
  have w1 : IntKind.i64.wrap (a.e + b.e) = a.e + b.e := wrap_i64 (by omega)
  refine ⟨z2, ?_⟩
  rw [run_k G T J.U.dyad_Mul]
  unfold mulD
  clear hb
  obtain ⟨n, m, e⟩ := a
  obtain ⟨n', m', e'⟩ := b
  have hne : (n != n') = !decide (n = n') := by cases n <;> cases n' <;> rfl
  simp only at *
  rw [hne] at h3 ⊢
  simp only [DyA, A3] at *
  repeat' (first | (simp (maxSteps := 1000000) only [seval, evB, exB, c_dyad_Mul, h1, h2, w1, h3]) | (simp (maxSteps := 1000000) (disch := first | with_reducible assumption | omega) only [dxB]) | (simp only [kI_d, kG_dt, kG_df]; split) | (simp only [kI_v, kG_vt, kG_vf]; split))
theorem andn_nat {w k : Nat} (hk : k < 64) (hw : w < 2 ^ (k + 1)) : w &&& (2 ^ 64 - (2 ^ k + 1)) = w % 2 ^ k := by
  apply Nat.eq_of_testBit_eq
  intro i
  have hp : (2 : Nat) ^ k < 2 ^ 64 := Nat.pow_lt_pow_right (by decide) hk
  rw [Nat.testBit_and, Nat.testBit_mod_two_pow, Nat.testBit_two_pow_sub_succ hp, Nat.testBit_two_pow]
  by_cases h1 : i < k
  · rw [decide_eq_true h1, decide_eq_true (show i < 64 by omega), decide_eq_false (show ¬ k = i by omega)]; simp
  · rw [decide_eq_false h1]
    by_cases h2 : i = k
    · rw [decide_eq_true h2.symm]; simp
    · have : w.testBit i = false := Nat.testBit_lt_two_pow (Nat.lt_of_lt_of_le hw (Nat.pow_le_pow_right (by decide) (by omega)))
      rw [this]; simp
theorem andn64 {w k : Nat} (hk : k < 64) (hw : w < 2 ^ (k + 1)) : andNotI .u64 (w : Int) ((2 ^ k : Nat) : Int) = ((w % 2 ^ k : Nat) : Int) := by
  have hp : (2 : Nat) ^ k < 2 ^ 64 := Nat.pow_lt_pow_right (by decide) hk
  have hw2 : w < 2 ^ 64 := Nat.lt_of_lt_of_le hw (Nat.pow_le_pow_right (by decide) (by omega))
  have hlt : w % 2 ^ k < 2 ^ k := Nat.mod_lt _ (Nat.two_pow_pos k)
  rw [andNotI_eq]
  show IntKind.u64.wrap ((BitVec.ofInt 64 (w : Int) &&& ~~~BitVec.ofInt 64 ((2 ^ k : Nat) : Int)).toNat : Int) = _
  rw [show BitVec.ofInt 64 (w : Int) = BitVec.ofNat 64 w from rfl, show BitVec.ofInt 64 ((2 ^ k : Nat) : Int) = BitVec.ofNat 64 (2 ^ k) from rfl, BitVec.toNat_and, BitVec.toNat_not, BitVec.toNat_ofNat, BitVec.toNat_ofNat, Nat.mod_eq_of_lt hw2, Nat.mod_eq_of_lt hp,
    show 2 ^ 64 - 1 - 2 ^ k = 2 ^ 64 - (2 ^ k + 1) by omega, andn_nat hk hw, wrap_u64]
  omega
theorem andn_s {w : Nat} (h : w < 4294967296) : andNotI .u64 (w : Int) 2147483648 = ((w % 2147483648 : Nat) : Int) := andn64 (k := 31) (by decide) h
theorem andn_d {w : Nat} (h : w < 18446744073709551616) : andNotI .u64 (w : Int) 9223372036854775808 = ((w % 9223372036854775808 : Nat) : Int) := andn64 (k := 63) (by decide) h
theorem and_pow_lo {w k : Nat} (hw : w < 2 ^ k) : w &&& 2 ^ k = 0 := by
  apply Nat.eq_of_testBit_eq
  intro i
  rw [Nat.testBit_and, Nat.testBit_two_pow, Nat.zero_testBit]
  by_cases h : k = i
  · subst h; rw [Nat.testBit_lt_two_pow hw]; rfl
  · rw [decide_eq_false h, Bool.and_false]
theorem and_pow_hi {w k : Nat} (h1 : 2 ^ k ≤ w) (hw : w < 2 ^ (k + 1)) : w &&& 2 ^ k = 2 ^ k := by
  apply Nat.eq_of_testBit_eq
  intro i
  rw [Nat.testBit_and, Nat.testBit_two_pow]
  rw [Nat.pow_succ] at hw
  by_cases h : k = i
  · subst h
    have : w / 2 ^ k = 1 := Nat.div_eq_of_lt_le (by omega) (by omega)
    rw [Nat.testBit_eq_decide_div_mod_eq, this]; rfl
  · rw [decide_eq_false h, Bool.and_false]
theorem and_bit {w k : Nat} (hk : k < 64) (hw : w < 2 ^ (k + 1)) : andI .u64 (w : Int) ((2 ^ k : Nat) : Int) = if 2 ^ k ≤ w then ((2 ^ k : Nat) : Int) else 0 := by
  have hp : (2 : Nat) ^ k < 2 ^ 64 := Nat.pow_lt_pow_right (by decide) hk
  have hw2 : w < 2 ^ 64 := Nat.lt_of_lt_of_le hw (Nat.pow_le_pow_right (by decide) (by omega))
  rw [and64 (by omega) (by omega)]
  by_cases h : 2 ^ k ≤ w
  · rw [if_pos h, and_pow_hi h hw]
  · rw [if_neg h, and_pow_lo (by omega)]; rfl
theorem and_s {w : Nat} (h : w < 4294967296) : andI .u64 (w : Int) 2147483648 = if 2147483648 ≤ w then 2147483648 else 0 := and_bit (k := 31) (by decide) h
theorem and_d {w : Nat} (h : w < 18446744073709551616) : andI .u64 (w : Int) 9223372036854775808 = if 9223372036854775808 ≤ w then 9223372036854775808 else 0 := and_bit (k := 63) (by decide) h
theorem and_ms {w : Nat} (h : w < 18446744073709551616) : andI .u64 (w : Int) 8388607 = ((w % 8388608 : Nat) : Int) := and_mask (j := 23) h (by decide)
theorem and_md {w : Nat} (h : w < 18446744073709551616) : andI .u64 (w : Int) 4503599627370495 = ((w % 4503599627370496 : Nat) : Int) := and_mask (j := 52) h (by decide)
theorem or_s : orI .u64 2147483648 2147483647 = 4294967295 := by rw [orI_eq]; rfl
theorem or_d : orI .u64 9223372036854775808 9223372036854775807 = 18446744073709551615 := by rw [orI_eq]; rfl
theorem or_ns : orI .u64 2139095040 4194304 = 2143289344 := by rw [orI_eq]; rfl
theorem or_nd : orI .u64 9218868437227405312 2251799813685248 = 9221120237041090560 := by rw [orI_eq]; rfl
theorem wop_loop (e : Env) (h : Heap) : evL G T c_word_open_l1 e h = kS G T (evL G T c_word_open_b1 (keepE [4, 6, 18, 19, 20] e) h) c_word_open_l1 := s_loopc G T rfl e h
theorem ia11 (x : AV) (k : IntKind) : iaddrV 1 (.imm 1 [x]) (.int k 0) = some (.iptr [x] 0) := rfl
theorem rd11 (h : Mem) (x : AV) : rdAt G h 1 (.iptr [x] 0) = some [x] := rfl
theorem word_open1 (J : Al G T g) (F : Fm) {w : Nat} (hw : w < 18446744073709551616) : run G T 95 [.int .u8 F.u, .imm 1 [.int .u64 (w : Int)]] = some (.tup [shA F, .int .i64 (if w < 2 * F.sg then 0 else 6)]) := by
  rw [run_k G T J.D.word_open]
  have h1 := word_shapeOf (G := G) J F
  have wr : IntKind.i64.wrap 1 = 1 := rfl
  by_cases hk : w < 2 * F.sg
  · rw [if_pos hk]
    cases F
    · simp only [shA, Fm.u, Fm.fr, Fm.sg, Fm.most, Int.cast_ofNat_Int, Nat.reduceMul] at *
      have c1 : ¬ (4294967295 : Int) < (w : Int) := by omega
      repeat' (first | (simp (maxSteps := 1000000) only [seval, evB, exB, c_word_open, h1, wop_loop, c_word_open_b1, ia11, rd11, or_s, or_d, c1, wr]) | (simp (maxSteps := 1000000) (disch := first | with_reducible assumption | omega) only [dxB]) | (simp only [kI_d, kG_dt, kG_df]; split) | (simp only [kI_v, kG_vt, kG_vf]; split))
    · simp only [shA, Fm.u, Fm.fr, Fm.sg, Fm.most, Int.cast_ofNat_Int, Nat.reduceMul] at *
      have c1 : ¬ (18446744073709551615 : Int) < (w : Int) := by omega
      repeat' (first | (simp (maxSteps := 1000000) only [seval, evB, exB, c_word_open, h1, wop_loop, c_word_open_b1, ia11, rd11, or_s, or_d, c1, wr]) | (simp (maxSteps := 1000000) (disch := first | with_reducible assumption | omega) only [dxB]) | (simp only [kI_d, kG_dt, kG_df]; split) | (simp only [kI_v, kG_vt, kG_vf]; split))
  · rw [if_neg hk]
    cases F
    · simp only [shA, Fm.u, Fm.fr, Fm.sg, Fm.most, Int.cast_ofNat_Int, Nat.reduceMul] at *
      have c1 : (4294967295 : Int) < (w : Int) := by omega
      repeat' (first | (simp (maxSteps := 1000000) only [seval, evB, exB, c_word_open, h1, wop_loop, c_word_open_b1, ia11, rd11, or_s, or_d, c1, wr]) | (simp (maxSteps := 1000000) (disch := first | with_reducible assumption | omega) only [dxB]) | (simp only [kI_d, kG_dt, kG_df]; split) | (simp only [kI_v, kG_vt, kG_vf]; split))
    · simp only [Fm.sg] at hk; omega
theorem cls_spec (F : Fm) (w : Nat) : (F.ex w = 0 ∧ F.fc w = 0 ∧ F.cls w = 1) ∨ (F.ex w = 0 ∧ F.fc w ≠ 0 ∧ F.cls w = 2) ∨ (F.ex w ≠ 0 ∧ F.ex w < F.most ∧ F.cls w = 3) ∨ (F.ex w ≠ 0 ∧ ¬ F.ex w < F.most ∧ F.fc w = 0 ∧ F.cls w = 4) ∨ (F.ex w ≠ 0 ∧ ¬ F.ex w < F.most ∧ F.fc w ≠ 0 ∧ F.cls w = 5) := by
  unfold Fm.cls
  generalize F.ex w = x
  generalize F.fc w = y
  repeat' split
  all_goals omega
theorem ng_spec (F : Fm) (w : Nat) : (F.ng w = true ∧ F.sg ≤ w) ∨ (F.ng w = false ∧ w < F.sg) := by
  unfold Fm.ng
  by_cases h : F.sg ≤ w
  · left; exact ⟨decide_eq_true h, h⟩
  · right; exact ⟨decide_eq_false h, by omega⟩
theorem word_class (J : Al G T g) (F : Fm) {w : Nat} (hw : w < 2 * F.sg) : run G T 201 [shA F, .int .u64 (w : Int)] = some (.int .u8 (F.cls w)) := by
  rw [run_k G T J.U.word_shape_class]
  obtain ⟨q1, q2, q3, q4⟩ := w_split hw
  have hc := cls_spec F w
  have hlt : w % F.sg < F.sg := Nat.mod_lt _ (by cases F <;> decide)
  clear q1
  generalize F.cls w = c at *
  generalize F.ex w = x at *
  generalize F.fc w = y at *
  cases F
  · have h2 := andn_s (w := w) hw
    have hi := word_inf J .s
    simp only [shA, Fm.u, Fm.fr, Fm.sg, Fm.most, Int.cast_ofNat_Int, Nat.reducePow, Nat.reduceMul] at *
    generalize w % 2147483648 = s at *
    repeat' (first | (simp (maxSteps := 1000000) only [seval, evB, exB, c_word_shape_class, h2, hi]) | (simp (maxSteps := 1000000) (disch := first | with_reducible assumption | omega) only [dxB]) | (simp only [kI_d, kG_dt, kG_df]; split) | (simp only [kI_v, kG_vt, kG_vf]; split))
    all_goals (refine some_int ?_; omega)
  · have h2 := andn_d (w := w) hw
    have hi := word_inf J .d
    simp only [shA, Fm.u, Fm.fr, Fm.sg, Fm.most, Int.cast_ofNat_Int, Nat.reducePow, Nat.reduceMul] at *
    generalize w % 9223372036854775808 = s at *
    repeat' (first | (simp (maxSteps := 1000000) only [seval, evB, exB, c_word_shape_class, h2, hi]) | (simp (maxSteps := 1000000) (disch := first | with_reducible assumption | omega) only [dxB]) | (simp only [kI_d, kG_dt, kG_df]; split) | (simp only [kI_v, kG_vt, kG_vf]; split))
    all_goals (refine some_int ?_; omega)
theorem word_split (J : Al G T g) (F : Fm) {w : Nat} (hw : w < 2 * F.sg) : run G T 200 [shA F, .int .u64 (w : Int)] = some (fldA (F.ng w) (F.ex w) (F.fc w)) := by
  rw [run_k G T J.U.word_shape_split]
  have hlt : w % F.sg < F.sg := Nat.mod_lt _ (by cases F <;> decide)
  have hn := ng_spec F w
  have e2 : w % F.sg / 2 ^ F.fr = F.ex w := rfl
  have e3 : w % F.sg % 2 ^ F.fr = F.fc w := rfl
  have q4 := (w_split hw).2.2.2
  generalize F.ng w = n at *
  generalize F.ex w = x at *
  generalize F.fc w = y at *
  cases F
  · have h2 := andn_s (w := w) hw
    have h4 := and_s (w := w) hw
    simp only [shA, Fm.u, Fm.fr, Fm.sg, Fm.most, fldA, Int.cast_ofNat_Int, Nat.reducePow] at *
    generalize w % 2147483648 = s at *
    have h5 := and_ms (w := s) (by omega)
    rw [e3] at h5
    have w1 : (s : Int) / 8388608 = (x : Int) := by omega
    rcases hn with ⟨rfl, hn⟩ | ⟨rfl, hn⟩
    · rw [if_pos hn] at h4
      repeat' (first | (simp (maxSteps := 1000000) only [seval, evB, exB, c_word_shape_split, h2, h4, h5, w1]) | (simp (maxSteps := 1000000) (disch := first | with_reducible assumption | omega) only [dxB]) | (simp only [kI_d, kG_dt, kG_df]; split) | (simp only [kI_v, kG_vt, kG_vf]; split))
    · rw [if_neg (by omega)] at h4
      repeat' (first | (simp (maxSteps := 1000000) only [seval, evB, exB, c_word_shape_split, h2, h4, h5, w1]) | (simp (maxSteps := 1000000) (disch := first | with_reducible assumption | omega) only [dxB]) | (simp only [kI_d, kG_dt, kG_df]; split) | (simp only [kI_v, kG_vt, kG_vf]; split))
  · have h2 := andn_d (w := w) hw
    have h4 := and_d (w := w) hw
    simp only [shA, Fm.u, Fm.fr, Fm.sg, Fm.most, fldA, Int.cast_ofNat_Int, Nat.reducePow] at *
    generalize w % 9223372036854775808 = s at *
    have h5 := and_md (w := s) (by omega)
    rw [e3] at h5
    have w1 : (s : Int) / 4503599627370496 = (x : Int) := by omega
    rcases hn with ⟨rfl, hn⟩ | ⟨rfl, hn⟩
    · rw [if_pos hn] at h4
      repeat' (first | (simp (maxSteps := 1000000) only [seval, evB, exB, c_word_shape_split, h2, h4, h5, w1]) | (simp (maxSteps := 1000000) (disch := first | with_reducible assumption | omega) only [dxB]) | (simp only [kI_d, kG_dt, kG_df]; split) | (simp only [kI_v, kG_vt, kG_vf]; split))
    · rw [if_neg (by omega)] at h4
      repeat' (first | (simp (maxSteps := 1000000) only [seval, evB, exB, c_word_shape_split, h2, h4, h5, w1]) | (simp (maxSteps := 1000000) (disch := first | with_reducible assumption | omega) only [dxB]) | (simp only [kI_d, kG_dt, kG_df]; split) | (simp only [kI_v, kG_vt, kG_vf]; split))
theorem sg_64 {F : Fm} {w : Nat} (h : w < 2 * F.sg) : w < 18446744073709551616 := by
  have : 2 * F.sg ≤ 18446744073709551616 := by cases F <;> decide
  omega
theorem word_Class (J : Al G T g) (F : Fm) {w : Nat} (hw : w < 2 * F.sg) : run G T 193 [.int .u8 F.u, .int .u64 (w : Int)] = some (.tup [.int .u8 (F.cls w), .int .i64 0]) := by
  rw [run_k G T J.U.word_Class]
  have h1 := word_open1 J F (sg_64 hw)
  rw [if_pos hw] at h1
  have h2 := word_class J F hw
  generalize F.cls w = c at *
  simp only [shA] at *
  repeat' (first | (simp (maxSteps := 1000000) only [seval, evB, exB, c_word_Class, h1, h2]) | (simp (maxSteps := 1000000) (disch := first | with_reducible assumption | omega) only [dxB]) | (simp only [kI_d, kG_dt, kG_df]; split) | (simp only [kI_v, kG_vt, kG_vf]; split))
theorem word_Split (J : Al G T g) (F : Fm) {w : Nat} (hw : w < 2 * F.sg) : run G T 192 [.int .u8 F.u, .int .u64 (w : Int)] = some (.tup [fldA (F.ng w) (F.ex w) (F.fc w), .int .i64 0]) := by
  rw [run_k G T J.U.word_Split]
  have h1 := word_open1 J F (sg_64 hw)
  rw [if_pos hw] at h1
  have h2 := word_split J F hw
  generalize F.ng w = n at *
  generalize F.ex w = x at *
  generalize F.fc w = y at *
  simp only [shA, fldA] at *
  repeat' (first | (simp (maxSteps := 1000000) only [seval, evB, exB, c_word_Split, h1, h2]) | (simp (maxSteps := 1000000) (disch := first | with_reducible assumption | omega) only [dxB]) | (simp only [kI_d, kG_dt, kG_df]; split) | (simp only [kI_v, kG_vt, kG_vf]; split))
theorem word_finite (J : Al G T g) (F : Fm) {w : Nat} (hw : w < 2 * F.sg) : run G T 202 [.int .u8 F.u, .int .u64 (w : Int)] = some (.tup [shA F, .int .i64 (if F.fin w then 0 else 7)]) := by
  rw [run_k G T J.U.word_finite]
  have h1 := word_open1 J F (sg_64 hw)
  rw [if_pos hw] at h1
  have h2 := word_class J F hw
  have h3 := fin_iff (F := F) (w := w)
  have h4 := cls_range F w
  by_cases hf : F.fin w
  · rw [if_pos hf]
    have h5 := h3.1 hf
    clear h3
    generalize F.cls w = c at *
    have c1 : ¬ (4 : Int) ≤ c := by omega
    simp only [shA] at *
    repeat' (first | (simp (maxSteps := 1000000) only [seval, evB, exB, c_word_finite, h1, h2, c1]) | (simp (maxSteps := 1000000) (disch := first | with_reducible assumption | omega) only [dxB]) | (simp only [kI_d, kG_dt, kG_df]; split) | (simp only [kI_v, kG_vt, kG_vf]; split))
  · rw [if_neg hf]
    have h5 : ¬ (F.cls w = 1 ∨ F.cls w = 2 ∨ F.cls w = 3) := fun h => hf (h3.2 h)
    clear h3
    generalize F.cls w = c at *
    have c1 : (4 : Int) ≤ c := by omega
    simp only [shA] at *
    repeat' (first | (simp (maxSteps := 1000000) only [seval, evB, exB, c_word_finite, h1, h2, c1]) | (simp (maxSteps := 1000000) (disch := first | with_reducible assumption | omega) only [dxB]) | (simp only [kI_d, kG_dt, kG_df]; split) | (simp only [kI_v, kG_vt, kG_vf]; split))
theorem or_fr {y k : Nat} (h : y < 2 ^ k) (hk : k < 63) : orI .u64 (y : Int) ((2 ^ k : Nat) : Int) = ((2 ^ k + y : Nat) : Int) := by
  have hp : (2 : Nat) ^ k < 2 ^ 64 := Nat.pow_lt_pow_right (by decide) (by omega)
  have e := or_add (c := y) (x := 1) (s := k) h
  rw [Nat.one_mul] at e
  rw [or64 (by omega) (by omega), e, Nat.add_comm]
theorem word_Value (J : Al G T g) (F : Fm) {w : Nat} (hw : w < 2 * F.sg) :
    ∃ z k, run G T 194 [.int .u8 F.u, .int .u64 (w : Int)] = some (.tup [DyA z (F.vl w), .int .i64 k]) := by
  have h1 := word_finite J F hw
  by_cases hf : F.fin w
  · rw [if_pos hf] at h1
    have h2 := word_split J F hw
    have h3 := word_low J F
    have hy : F.fc w < 2 ^ F.fr := Nat.mod_lt _ (Nat.two_pow_pos _)
    have hp : 2 ^ F.fr ≤ 4503599627370496 := by cases F <;> decide
    have hF := fm_facts F
    have hm : F.most ≤ 2047 := by cases F <;> decide
    have hvl : F.vl w = F.val w := if_pos hf
    rw [hvl]
    unfold Fm.fin at hf
    unfold Fm.val
    have hor := or_fr hy (by omega)
    generalize F.ex w = x at *
    generalize F.fc w = y at *
    generalize F.ng w = n at *
    have hb1 : blen y ≤ 53 := blen_le.2 (by omega)
    have hb2 : blen (2 ^ F.fr + y) ≤ 53 := blen_le.2 (by omega)
    have hmin : min F.fr 64 = F.fr := by omega
    have hp0 := Nat.two_pow_pos F.fr
    by_cases h0 : x = 0
    · subst h0
      obtain ⟨z1, o1⟩ := nat_Of J (n := y) (by omega)
      obtain ⟨z2, o2⟩ := dyad_Make J (n := n) (z := z1) (a := y) (e := F.low) (mayL_small (by omega)) (mk_rng (by omega) (by omega)) (by omega)
      have w1 : max (0 : Int) 1 = 1 := by decide
      have w2 : IntKind.i64.wrap (1 - 1) = 0 := rfl
      have w3 : IntKind.i64.wrap (0 + F.low) = F.low := by rw [Int.zero_add]; exact wrap_i64 (by omega)
      have w4 : IntKind.i64.wrap F.low = F.low := wrap_i64 (by omega)
      refine ⟨z2, 0, ?_⟩
      rw [if_pos rfl, run_k G T J.U.word_Value]
      simp only [shA, fldA, cast0, DyA, A3] at *
      repeat' (first | (simp (maxSteps := 1000000) only [seval, evB, exB, c_word_Value, h1, h2, h3, o1, w1, w2, w3, w4, mm_max2, o2, Int.zero_add]) | (simp (maxSteps := 1000000) (disch := first | with_reducible assumption | omega) only [dxB]) | (simp only [kI_d, kG_dt, kG_df]; split) | (simp only [kI_v, kG_vt, kG_vf]; split))
    · obtain ⟨z1, o1⟩ := nat_Of J (n := 2 ^ F.fr + y) (by omega)
      obtain ⟨z2, o2⟩ := dyad_Make J (n := n) (z := z1) (a := 2 ^ F.fr + y) (e := x - 1 + F.low) (mayL_small (by omega)) (mk_rng (by omega) (by omega)) (by omega)
      have c0 : (0 : Int) < (x : Int) := by omega
      have w1 : max (x : Int) 1 = x := by omega
      have w2 : IntKind.i64.wrap ((x : Int) - 1) = x - 1 := wrap_i64 (by omega)
      have w3 : IntKind.i64.wrap ((x : Int) - 1 + F.low) = x - 1 + F.low := wrap_i64 (by omega)
      have w5 : (1 * (2 : Int) ^ F.fr) % 18446744073709551616 = ((2 ^ F.fr : Nat) : Int) := by rw [pow_cast]; omega
      have w6 : ((2 : Int) ^ F.fr) % 18446744073709551616 = ((2 ^ F.fr : Nat) : Int) := by rw [pow_cast]; omega
      refine ⟨z2, 0, ?_⟩
      rw [if_neg h0, run_k G T J.U.word_Value]
      simp only [shA, fldA, DyA, A3] at *
      repeat' (first | (simp (maxSteps := 1000000) only [seval, evB, exB, c_word_Value, h1, h2, h3, c0, hmin, w5, w6, hor, o1, w1, w2, w3, mm_max2, o2]) | (simp (maxSteps := 1000000) (disch := first | with_reducible assumption | omega) only [dxB]) | (simp only [kI_d, kG_dt, kG_df]; split) | (simp only [kI_v, kG_vt, kG_vf]; split))
  · rw [if_neg hf] at h1
    refine ⟨true, 7, ?_⟩
    have hvl : F.vl w = ⟨false, 0, 0⟩ := if_neg hf
    rw [hvl, run_k G T J.U.word_Value]
    simp only [shA, DyA, A3, dl_zero] at *
    repeat' (first | (simp (maxSteps := 1000000) only [seval, evB, exB, c_word_Value, h1]) | (simp (maxSteps := 1000000) (disch := first | with_reducible assumption | omega) only [dxB]) | (simp only [kI_d, kG_dt, kG_df]; split) | (simp only [kI_v, kG_vt, kG_vf]; split))
    all_goals try rfl
theorem word_none (J : Al G T g) (F : Fm) : run G T 204 [shA F] = some (.int .u64 (F.nan : Int)) := by
  rw [run_k G T J.U.word_shape_none]
  have h := word_inf (G := G) J F
  cases F <;> (
    simp only [shA, Fm.u, Fm.fr, Fm.sg, Fm.most, Fm.nan, Int.cast_ofNat_Int, Nat.reducePow, Nat.reduceMul, Nat.reduceSub, Nat.reduceAdd] at *
    repeat' (first | (simp (maxSteps := 1000000) only [seval, evB, exB, c_word_shape_none, h, or_ns, or_nd]) | (simp (maxSteps := 1000000) (disch := first | with_reducible assumption | omega) only [dxB]) | (simp only [kI_d, kG_dt, kG_df]; split) | (simp only [kI_v, kG_vt, kG_vf]; split)))
theorem word_None (J : Al G T g) (F : Fm) : run G T 196 [.int .u8 F.u] = some (.tup [.int .u64 (F.nan : Int), .int .i64 0]) := by
  rw [run_k G T J.U.word_None]
  have h := word_named (G := G) J F (n := false) (k := 204) (word_none J F) (by cases F <;> decide)
  rw [show F.nan + F.sgn false = F.nan from rfl] at h
  repeat' (first | (simp (maxSteps := 1000000) only [seval, evB, exB, c_word_None, h]) | (simp (maxSteps := 1000000) (disch := first | with_reducible assumption | omega) only [dxB]) | (simp only [kI_d, kG_dt, kG_df]; split) | (simp only [kI_v, kG_vt, kG_vf]; split))
theorem Nz_mul (a b : Dy) : Nz (mulD a b) := Nz_mk _ _ _
theorem Bd_mul {a b : Dy} {K : Nat} (ha : Bd a K) (hb : Bd b K) : Bd (mulD a b) (4 * K) := by
  obtain ⟨a1, a2, a3⟩ := ha
  obtain ⟨b1, b2, b3⟩ := hb
  have hb : blen (a.m * b.m) ≤ 2 * K := by
    refine blen_le.2 ?_
    rw [show 2 * K = K + K by omega, Nat.pow_add]
    exact Nat.mul_lt_mul_of_lt_of_lt (blen_le.1 a1) (blen_le.1 b1)
  exact Bd_mk (by omega) (by omega) (by omega)
theorem mayD_nzb {d : Dy} (h : Nz d) (b : Bd d 131072) : mayD d.n (dl d.m) d.e = true := by
  obtain ⟨b1, b2, b3⟩ := b
  have hm : mayL (dl d.m) = true := mayL_small b1
  simp only [mayD, hm, Bool.true_and]
  by_cases h0 : d.m = 0
  · rw [h.1 h0, dl_zero]; rfl
  · have h1 : ¬ (dl d.m).length = 0 := fun hc => h0 (dl_len0.1 hc)
    rw [if_neg h1, dg0]
    have h2 := h.2 h0
    simp only [Bool.and_eq_true, decide_eq_true_eq]
    exact ⟨h2, by omega, by omega⟩
theorem sgnD_zero {d : Dy} : sgnD d = 0 ↔ d.m = 0 := by
  unfold sgnD
  by_cases h : d.m = 0
  · rw [if_pos h]; exact ⟨fun _ => h, fun _ => rfl⟩
  · rw [if_neg h]
    constructor
    · intro hc; split at hc <;> omega
    · intro hc; exact absurd hc h
theorem ref03_None (J : Al G T g) (F : Fm) : run G T 157 [.int .u8 F.u] = some (.int .u64 (F.nan : Int)) := by
  rw [run_k G T J.F.ref03_None]
  have h1 := ref03_Most J F
  have h2 := ref03_Frac J F
  cases F
  · have h4 := ref03_Join J .s (n := false) (x := 255) (w := 4194304) (by decide) (Or.inl (by decide))
    simp only [fldA, Fm.u, Fm.fr, Fm.most, Fm.nan, Fm.inf, Fm.sgn, Fm.sg, Int.cast_ofNat_Int, Nat.reducePow, Nat.reduceMul, Nat.reduceSub, Nat.reduceAdd, Bool.false_eq_true, if_false] at *
    repeat' (first | (simp (maxSteps := 1000000) only [seval, evB, exB, c_ref03_None, h1, h2, h4]) | (simp (maxSteps := 1000000) (disch := first | with_reducible assumption | omega) only [dxB]) | (simp only [kI_d, kG_dt, kG_df]; split) | (simp only [kI_v, kG_vt, kG_vf]; split))
  · have h4 := ref03_Join J .d (n := false) (x := 2047) (w := 2251799813685248) (by decide) (Or.inl (by decide))
    simp only [fldA, Fm.u, Fm.fr, Fm.most, Fm.nan, Fm.inf, Fm.sgn, Fm.sg, Int.cast_ofNat_Int, Nat.reducePow, Nat.reduceMul, Nat.reduceSub, Nat.reduceAdd, Bool.false_eq_true, if_false] at *
    repeat' (first | (simp (maxSteps := 1000000) only [seval, evB, exB, c_ref03_None, h1, h2, h4]) | (simp (maxSteps := 1000000) (disch := first | with_reducible assumption | omega) only [dxB]) | (simp only [kI_d, kG_dt, kG_df]; split) | (simp only [kI_v, kG_vt, kG_vf]; split))
theorem ref05_neg (J : Al G T g) (F : Fm) {w : Nat} : run G T 233 [.int .u8 F.u, .int .u64 (w : Int)] = some (.bool (F.ng w)) := by
  rw [run_k G T J.H.ref05_neg]
  have h1 := ref03_Sign J F
  have h2 : decide ((F.sg : Int) ≤ (w : Int)) = F.ng w := by unfold Fm.ng; congr 1; apply propext; omega
  repeat' (first | (simp (maxSteps := 1000000) only [seval, evB, exB, c_ref05_neg, h1, h2]) | (simp (maxSteps := 1000000) (disch := first | with_reducible assumption | omega) only [dxB]) | (simp only [kI_d, kG_dt, kG_df]; split) | (simp only [kI_v, kG_vt, kG_vf]; split))
theorem ref05_nan (J : Al G T g) (F : Fm) {w : Nat} (hw : w < 2 * F.sg) : run G T 230 [.int .u8 F.u, .int .u64 (w : Int)] = some (.bool (decide (F.cls w = 5))) := by
  rw [run_k G T J.H.ref05_nan]
  have h1 := ref03_Class J F (sg_64 hw)
  repeat' (first | (simp (maxSteps := 1000000) only [seval, evB, exB, c_ref05_nan, h1]) | (simp (maxSteps := 1000000) (disch := first | with_reducible assumption | omega) only [dxB]) | (simp only [kI_d, kG_dt, kG_df]; split) | (simp only [kI_v, kG_vt, kG_vf]; split))
theorem ref05_inf (J : Al G T g) (F : Fm) {w : Nat} (hw : w < 2 * F.sg) : run G T 231 [.int .u8 F.u, .int .u64 (w : Int)] = some (.bool (decide (F.cls w = 4))) := by
  rw [run_k G T J.H.ref05_inf]
  have h1 := ref03_Class J F (sg_64 hw)
  repeat' (first | (simp (maxSteps := 1000000) only [seval, evB, exB, c_ref05_inf, h1]) | (simp (maxSteps := 1000000) (disch := first | with_reducible assumption | omega) only [dxB]) | (simp only [kI_d, kG_dt, kG_df]; split) | (simp only [kI_v, kG_vt, kG_vf]; split))
theorem ref05_zero (J : Al G T g) (F : Fm) {w : Nat} (hw : w < 2 * F.sg) : run G T 232 [.int .u8 F.u, .int .u64 (w : Int)] = some (.bool (decide (F.cls w = 1))) := by
  rw [run_k G T J.H.ref05_zero]
  have h1 := ref03_Class J F (sg_64 hw)
  repeat' (first | (simp (maxSteps := 1000000) only [seval, evB, exB, c_ref05_zero, h1]) | (simp (maxSteps := 1000000) (disch := first | with_reducible assumption | omega) only [dxB]) | (simp only [kI_d, kG_dt, kG_df]; split) | (simp only [kI_v, kG_vt, kG_vf]; split))
theorem ref05_Nothing (J : Al G T g) (F : Fm) {md : Int} : run G T 234 [.int .u8 F.u, .int .u8 md] = some (.int .u64 ((F.sgn (decide (md = 5)) : Nat) : Int)) := by
  rw [run_k G T J.H.ref05_Nothing]
  have h1 := ref03_Signed J F (n := decide (md = 5)) (w := 0)
  rw [Nat.zero_mod, Nat.zero_add, cast0] at h1
  repeat' (first | (simp (maxSteps := 1000000) only [seval, evB, exB, c_ref05_Nothing, h1]) | (simp (maxSteps := 1000000) (disch := first | with_reducible assumption | omega) only [dxB]) | (simp only [kI_d, kG_dt, kG_df]; split) | (simp only [kI_v, kG_vt, kG_vf]; split))
theorem ref_sum (J : Al G T g) (F : Fm) {md : Int} (hm : 1 ≤ md ∧ md ≤ 5) {z : Bool} {d : Dy} (hz : Nz d) (hb : Bd d 131072) :
    run G T 16 [DyA z d] = some (.int .i64 (sgnD d)) ∧
    ((sgnD d = 0 ∧ run G T 234 [.int .u8 F.u, .int .u8 md] = some (.int .u64 ((sumW F md d).1 : Int)) ∧ (sumW F md d).2 = 0) ∨
     (¬ sgnD d = 0 ∧ run G T 12 [.int .u8 F.u, .int .u8 md, DyA z d] = some (.tup [.int .u64 ((sumW F md d).1 : Int), .int .u8 ((sumW F md d).2 : Int)]))) := by
  refine ⟨ref02_Sign J, ?_⟩
  by_cases h0 : d.m = 0
  · left
    have h1 := ref05_Nothing J F (md := md)
    unfold sumW
    rw [if_pos h0]
    exact ⟨sgnD_zero.2 h0, h1, rfl⟩
  · right
    have h1 := ref04_Round J F hm (z := z) hz (hb.mono (by decide))
    unfold sumW
    rw [if_neg h0]
    exact ⟨fun h => h0 (sgnD_zero.1 h), h1⟩
theorem addW_split (F : Fm) (md : Int) {a b : Nat} (ha : a < 2 * F.sg) (hb : b < 2 * F.sg) :
    (F.cls a = 5 ∧ addW F md a b = (F.nan, 0)) ∨ (F.cls a ≠ 5 ∧ F.cls b = 5 ∧ addW F md a b = (F.nan, 0)) ∨
    (F.cls a = 4 ∧ F.cls b = 4 ∧ a = b ∧ addW F md a b = (a, 0)) ∨ (F.cls a = 4 ∧ F.cls b = 4 ∧ a ≠ b ∧ addW F md a b = (F.nan, 1)) ∨
    (F.cls a = 4 ∧ F.cls b ≠ 4 ∧ F.cls b ≠ 5 ∧ addW F md a b = (a, 0)) ∨ (F.cls a ≠ 4 ∧ F.cls a ≠ 5 ∧ F.cls b = 4 ∧ addW F md a b = (b, 0)) ∨
    (F.fin a ∧ F.fin b ∧ F.cls a = 1 ∧ a = b ∧ addW F md a b = (a, 0)) ∨ (F.fin a ∧ F.fin b ∧ (F.cls a ≠ 1 ∨ a ≠ b) ∧ addW F md a b = sumW F md (addD (F.vl a) (F.vl b))) := by
  unfold addW addP
  have ra := cls_range F a
  have rb := cls_range F b
  by_cases a5 : F.cls a = 5
  · left; exact ⟨a5, if_pos (Or.inl a5)⟩
  · right
    by_cases b5 : F.cls b = 5
    · left; exact ⟨a5, b5, if_pos (Or.inr b5)⟩
    · right
      rw [if_neg (by omega)]
      by_cases a4 : F.cls a = 4
      · have ea := cls_inf_w ha a4
        by_cases b4 : F.cls b = 4
        · have eb := cls_inf_w hb b4
          by_cases hn : F.ng a = F.ng b
          · left
            refine ⟨a4, b4, by rw [ea, eb, hn], ?_⟩
            rw [if_neg (fun h => h.2.2 hn), if_pos a4, ← ea]
          · right; left
            refine ⟨a4, b4, ?_, if_pos ⟨a4, b4, hn⟩⟩
            intro hc; exact hn (by rw [hc])
        · right; right; left
          refine ⟨a4, b4, b5, ?_⟩
          rw [if_neg (fun h => b4 h.2.1), if_pos a4, ← ea]
      · by_cases b4 : F.cls b = 4
        · right; right; right; left
          refine ⟨a4, a5, b4, ?_⟩
          rw [if_neg (fun h => a4 h.1), if_neg a4, if_pos b4, ← cls_inf_w hb b4]
        · right; right; right; right
          have fa : F.fin a := fin_iff.2 (by omega)
          have fb : F.fin b := fin_iff.2 (by omega)
          rw [if_neg (fun h => a4 h.1), if_neg a4, if_neg b4]
          by_cases h1 : F.cls a = 1 ∧ a = b
          · left
            refine ⟨fa, fb, h1.1, h1.2, ?_⟩
            rw [if_pos ⟨h1.1, by rw [← h1.2]; exact h1.1, by rw [h1.2]⟩, ← (cls_zero_w ha h1.1).1]
          · right
            refine ⟨fa, fb, ?_, ?_⟩
            · by_cases q : F.cls a = 1
              · exact Or.inr (fun hc => h1 ⟨q, hc⟩)
              · exact Or.inl q
            · rw [if_neg]
              rintro ⟨q1, q2, q3⟩
              exact h1 ⟨q1, by rw [(cls_zero_w ha q1).1, (cls_zero_w hb q2).1, q3]⟩
theorem vl_val {F : Fm} {w : Nat} (h : F.fin w) : F.vl w = F.val w := if_pos h
theorem ref05_Add (J : Al G T g) (F : Fm) {md : Int} (hm : 1 ≤ md ∧ md ≤ 5) {a b : Nat} (ha : a < 2 * F.sg) (hb : b < 2 * F.sg) :
    run G T 219 [.int .u8 F.u, .int .u8 md, .int .u64 (a : Int), .int .u64 (b : Int)] = some (.tup [.int .u64 ((addW F md a b).1 : Int), .int .u8 ((addW F md a b).2 : Int)]) := by
  rw [run_k G T J.H.ref05_Add]
  have na := ref05_nan J F ha
  have nb := ref05_nan J F hb
  have ia := ref05_inf J F ha
  have ib := ref05_inf J F hb
  have za := ref05_zero J F ha
  have nn := ref03_None J F
  have ra := cls_range F a
  have rb := cls_range F b
  rcases addW_split F md ha hb with ⟨h1, W⟩ | ⟨h1, h2, W⟩ | ⟨h1, h2, h3, W⟩ | ⟨h1, h2, h3, W⟩ | ⟨h1, h2, h3, W⟩ | ⟨h1, h2, h3, W⟩ | ⟨h1, h2, h3, h4, W⟩ | ⟨h1, h2, h3, W⟩
  · rw [W]
    rw [decide_eq_true h1] at na
    repeat' (first | (simp (maxSteps := 1000000) only [seval, evB, exB, c_ref05_Add, na, nn]) | (simp (maxSteps := 1000000) (disch := first | with_reducible assumption | omega) only [dxB]) | (simp only [kI_d, kG_dt, kG_df]; split) | (simp only [kI_v, kG_vt, kG_vf]; split))
    all_goals rfl
  · rw [W]
    rw [decide_eq_false h1] at na
    rw [decide_eq_true h2] at nb
    repeat' (first | (simp (maxSteps := 1000000) only [seval, evB, exB, c_ref05_Add, na, nb, nn]) | (simp (maxSteps := 1000000) (disch := first | with_reducible assumption | omega) only [dxB]) | (simp only [kI_d, kG_dt, kG_df]; split) | (simp only [kI_v, kG_vt, kG_vf]; split))
    all_goals rfl
  · rw [W]
    rw [decide_eq_false (by omega)] at na nb
    rw [decide_eq_true h1] at ia
    rw [decide_eq_true h2] at ib
    subst h3
    repeat' (first | (simp (maxSteps := 1000000) only [seval, evB, exB, c_ref05_Add, na, nb, ia, ib]) | (simp (maxSteps := 1000000) (disch := first | with_reducible assumption | omega) only [dxB]) | (simp only [kI_d, kG_dt, kG_df]; split) | (simp only [kI_v, kG_vt, kG_vf]; split))
    all_goals rfl
  · rw [W]
    rw [decide_eq_false (by omega)] at na nb
    rw [decide_eq_true h1] at ia
    rw [decide_eq_true h2] at ib
    have hab : ¬ (a : Int) = (b : Int) := by omega
    repeat' (first | (simp (maxSteps := 1000000) only [seval, evB, exB, c_ref05_Add, na, nb, ia, ib, hab, nn]) | (simp (maxSteps := 1000000) (disch := first | with_reducible assumption | omega) only [dxB]) | (simp only [kI_d, kG_dt, kG_df]; split) | (simp only [kI_v, kG_vt, kG_vf]; split))
    all_goals rfl
  · rw [W]
    rw [decide_eq_false (by omega)] at na nb
    rw [decide_eq_true h1] at ia
    rw [decide_eq_false h2] at ib
    repeat' (first | (simp (maxSteps := 1000000) only [seval, evB, exB, c_ref05_Add, na, nb, ia, ib]) | (simp (maxSteps := 1000000) (disch := first | with_reducible assumption | omega) only [dxB]) | (simp only [kI_d, kG_dt, kG_df]; split) | (simp only [kI_v, kG_vt, kG_vf]; split))
    all_goals rfl
  · rw [W]
    rw [decide_eq_false (by omega)] at na nb
    rw [decide_eq_false h1] at ia
    rw [decide_eq_true h3] at ib
    repeat' (first | (simp (maxSteps := 1000000) only [seval, evB, exB, c_ref05_Add, na, nb, ia, ib]) | (simp (maxSteps := 1000000) (disch := first | with_reducible assumption | omega) only [dxB]) | (simp only [kI_d, kG_dt, kG_df]; split) | (simp only [kI_v, kG_vt, kG_vf]; split))
    all_goals rfl
  · rw [W]
    have q1 := fin_iff.1 h1
    have q2 := fin_iff.1 h2
    rw [decide_eq_false (by omega)] at na nb ia ib
    rw [decide_eq_true h3] at za
    subst h4
    repeat' (first | (simp (maxSteps := 1000000) only [seval, evB, exB, c_ref05_Add, na, nb, ia, ib, za]) | (simp (maxSteps := 1000000) (disch := first | with_reducible assumption | omega) only [dxB]) | (simp only [kI_d, kG_dt, kG_df]; split) | (simp only [kI_v, kG_vt, kG_vf]; split))
    all_goals rfl
  · rw [W]
    have q1 := fin_iff.1 h1
    have q2 := fin_iff.1 h2
    rw [decide_eq_false (by omega)] at na nb ia ib
    obtain ⟨z1, v1⟩ := ref03_Value J F (sg_64 ha) h1
    obtain ⟨z2, v2⟩ := ref03_Value J F (sg_64 hb) h2
    rw [← vl_val h1] at v1
    rw [← vl_val h2] at v2
    have b1 := Bd_vl F a
    have b2 := Bd_vl F b
    obtain ⟨z3, s1⟩ := ref02_Add J (z := z1) (y := z2) (b1.mono (by decide)) (b2.mono (by decide))
    obtain ⟨g1, g2⟩ := ref_sum J F hm (z := z3) (Nz_add (Nz_vl F a) (Nz_vl F b)) ((Bd_add b1 b2).mono (by decide))
    generalize sumW F md (addD (F.vl a) (F.vl b)) = S at *
    generalize addD (F.vl a) (F.vl b) = s at *
    generalize F.vl a = va at *
    generalize F.vl b = vb at *
    have hza : (F.cls a = 1 ∧ ¬ (a : Int) = (b : Int)) ∨ ¬ F.cls a = 1 := by omega
    clear b1 b2 W ra rb q1 q2 h3 nn
    simp only [DyA, A3] at *
    rcases hza with ⟨k1, k2⟩ | k1
    · rw [decide_eq_true k1] at za
      rcases g2 with ⟨g3, g4, g5⟩ | ⟨g3, g4⟩
      · rw [g5, cast0]
        repeat' (first | (simp (maxSteps := 1000000) only [seval, evB, exB, c_ref05_Add, na, nb, ia, ib, za, k2, v1, v2, s1, g1, g3, g4]) | (simp (maxSteps := 1000000) (disch := first | with_reducible assumption | omega) only [dxB]) | (simp only [kI_d, kG_dt, kG_df]; split) | (simp only [kI_v, kG_vt, kG_vf]; split))
        all_goals try rfl
      · repeat' (first | (simp (maxSteps := 1000000) only [seval, evB, exB, c_ref05_Add, na, nb, ia, ib, za, k2, v1, v2, s1, g1, g3, g4]) | (simp (maxSteps := 1000000) (disch := first | with_reducible assumption | omega) only [dxB]) | (simp only [kI_d, kG_dt, kG_df]; split) | (simp only [kI_v, kG_vt, kG_vf]; split))
        all_goals try rfl
    · rw [decide_eq_false k1] at za
      rcases g2 with ⟨g3, g4, g5⟩ | ⟨g3, g4⟩
      · rw [g5, cast0]
        repeat' (first | (simp (maxSteps := 1000000) only [seval, evB, exB, c_ref05_Add, na, nb, ia, ib, za, v1, v2, s1, g1, g3, g4]) | (simp (maxSteps := 1000000) (disch := first | with_reducible assumption | omega) only [dxB]) | (simp only [kI_d, kG_dt, kG_df]; split) | (simp only [kI_v, kG_vt, kG_vf]; split))
        all_goals try rfl
      · repeat' (first | (simp (maxSteps := 1000000) only [seval, evB, exB, c_ref05_Add, na, nb, ia, ib, za, v1, v2, s1, g1, g3, g4]) | (simp (maxSteps := 1000000) (disch := first | with_reducible assumption | omega) only [dxB]) | (simp only [kI_d, kG_dt, kG_df]; split) | (simp only [kI_v, kG_vt, kG_vf]; split))
        all_goals try rfl
theorem ref05_Sub (J : Al G T g) (F : Fm) {md : Int} (hm : 1 ≤ md ∧ md ≤ 5) {a b : Nat} (ha : a < 2 * F.sg) (hb : b < 2 * F.sg) :
    run G T 220 [.int .u8 F.u, .int .u8 md, .int .u64 (a : Int), .int .u64 (b : Int)] = some (.tup [.int .u64 ((subW F md a b).1 : Int), .int .u8 ((subW F md a b).2 : Int)]) := by
  rw [run_k G T J.H.ref05_Sub]
  have nb := ref05_nan J F hb
  have gb := ref05_neg J F (w := b)
  obtain ⟨f1, f2, f3, f4⟩ := flip_facts hb
  have sd := ref03_Signed J F (n := !F.ng b) (w := b)
  rw [show b % F.sg + F.sgn (!F.ng b) = F.flip b from rfl] at sd
  by_cases h1 : F.cls b = 5
  · rw [decide_eq_true h1] at nb
    have ad := ref05_Add J F hm ha hb
    have W : subW F md a b = addW F md a b := by
      unfold subW addW addP; rw [if_pos (Or.inr h1), if_pos (Or.inr h1)]
    rw [W]
    repeat' (first | (simp (maxSteps := 1000000) only [seval, evB, exB, c_ref05_Sub, nb, ad]) | (simp (maxSteps := 1000000) (disch := first | with_reducible assumption | omega) only [dxB]) | (simp only [kI_d, kG_dt, kG_df]; split) | (simp only [kI_v, kG_vt, kG_vf]; split))
    all_goals try rfl
  · rw [decide_eq_false h1] at nb
    have ad := ref05_Add J F hm ha f1
    rw [subW_flip F md hb]
    generalize addW F md a (F.flip b) = W at *
    generalize F.flip b = c at *
    cases hn : F.ng b <;> (
      rw [hn] at gb sd
      simp only [Bool.not_true, Bool.not_false] at sd
      repeat' (first | (simp (maxSteps := 1000000) only [seval, evB, exB, c_ref05_Sub, nb, gb, sd, ad]) | (simp (maxSteps := 1000000) (disch := first | with_reducible assumption | omega) only [dxB]) | (simp only [kI_d, kG_dt, kG_df]; split) | (simp only [kI_v, kG_vt, kG_vf]; split))
      all_goals try rfl)
structure KindR (G : Nat → Option (List AV)) (T : Tbl) (F : Fm) (w : Nat) (n i z : Bool) : Prop where
  nan : run G T 230 [.int .u8 F.u, .int .u64 (w : Int)] = some (.bool n)
  inf : run G T 231 [.int .u8 F.u, .int .u64 (w : Int)] = some (.bool i)
  zer : run G T 232 [.int .u8 F.u, .int .u64 (w : Int)] = some (.bool z)
theorem ref05_kind (J : Al G T g) (F : Fm) {w : Nat} (hw : w < 2 * F.sg) :
    (F.cls w = 5 ∧ KindR G T F w true false false) ∨ (F.cls w = 4 ∧ KindR G T F w false true false) ∨ (F.cls w = 1 ∧ KindR G T F w false false true) ∨ ((F.fin w ∧ F.cls w ≠ 1 ∧ F.cls w ≠ 4 ∧ F.cls w ≠ 5) ∧ KindR G T F w false false false) := by
  have h1 := ref05_nan J F hw
  have h2 := ref05_inf J F hw
  have h3 := ref05_zero J F hw
  have r := cls_range F w
  by_cases a : F.cls w = 5
  · left; rw [decide_eq_true a] at h1; rw [decide_eq_false (by omega)] at h2 h3; exact ⟨a, h1, h2, h3⟩
  · right
    by_cases b : F.cls w = 4
    · left; rw [decide_eq_true b] at h2; rw [decide_eq_false (by omega)] at h1 h3; exact ⟨b, h1, h2, h3⟩
    · right
      by_cases c : F.cls w = 1
      · left; rw [decide_eq_true c] at h3; rw [decide_eq_false (by omega)] at h1 h2; exact ⟨c, h1, h2, h3⟩
      · right; rw [decide_eq_false (by omega)] at h1 h2 h3; exact ⟨⟨fin_iff.2 (by omega), c, b, a⟩, h1, h2, h3⟩
set_option maxHeartbeats 16000000 in
theorem ref05_Mul (J : Al G T g) (F : Fm) {md : Int} (hm : 1 ≤ md ∧ md ≤ 5) {a b : Nat} (ha : a < 2 * F.sg) (hb : b < 2 * F.sg) :
    run G T 222 [.int .u8 F.u, .int .u8 md, .int .u64 (a : Int), .int .u64 (b : Int)] = some (.tup [.int .u64 ((mulW2 F md a b).1 : Int), .int .u8 ((mulW2 F md a b).2 : Int)]) := by
  rw [run_k G T J.H.ref05_Mul]
  have nn := ref03_None J F
  have ga := ref05_neg J F (w := a)
  have gb := ref05_neg J F (w := b)
  have inf := ref03_Inf J F (n := F.ng a != F.ng b)
  have sg := ref03_Signed J F (n := F.ng a != F.ng b) (w := 0)
  rw [Nat.zero_mod, Nat.zero_add, cast0] at sg
  unfold mulW2 mulP
  rcases ref05_kind J F ha with ⟨ka, na, ia, za⟩ | ⟨ka, na, ia, za⟩ | ⟨ka, na, ia, za⟩ | ⟨⟨fa, ka, ka2, ka3⟩, na, ia, za⟩
  · rw [if_pos (Or.inl ka)]
    repeat' (first | (simp (maxSteps := 1000000) only [seval, evB, exB, c_ref05_Mul, na, nn]) | (simp (maxSteps := 1000000) (disch := first | with_reducible assumption | omega) only [dxB]) | (simp only [kI_d, kG_dt, kG_df]; split) | (simp only [kI_v, kG_vt, kG_vf]; split))
    all_goals rfl
  all_goals rcases ref05_kind J F hb with ⟨kb, nb, ib, zb⟩ | ⟨kb, nb, ib, zb⟩ | ⟨kb, nb, ib, zb⟩ | ⟨⟨fb, kb, kb2, kb3⟩, nb, ib, zb⟩
  all_goals try (
    rw [if_pos (Or.inr kb)]
    repeat' (first | (simp (maxSteps := 1000000) only [seval, evB, exB, c_ref05_Mul, na, nb, nn]) | (simp (maxSteps := 1000000) (disch := first | with_reducible assumption | omega) only [dxB]) | (simp only [kI_d, kG_dt, kG_df]; split) | (simp only [kI_v, kG_vt, kG_vf]; split))
    all_goals rfl
    done)
  all_goals rw [if_neg (by omega)]
  all_goals try (
    rw [if_pos (by omega)]
    repeat' (first | (simp (maxSteps := 1000000) only [seval, evB, exB, c_ref05_Mul, na, nb, ia, za, ib, zb, nn]) | (simp (maxSteps := 1000000) (disch := first | with_reducible assumption | omega) only [dxB]) | (simp only [kI_d, kG_dt, kG_df]; split) | (simp only [kI_v, kG_vt, kG_vf]; split))
    all_goals rfl
    done)
  all_goals try rw [if_neg (show ¬ ((F.cls a = 4 ∨ F.cls b = 4) ∧ (F.cls a = 1 ∨ F.cls b = 1)) by omega)]
  all_goals try (
    rw [if_pos (show F.cls a = 4 ∨ F.cls b = 4 by omega)]
    generalize F.ng a = x at *
    generalize F.ng b = y at *
    cases x <;> cases y <;> (
      simp only [bne_self_eq_false, Bool.false_bne, Bool.true_bne, Bool.not_true, Bool.not_false, Bool.bne_true, Bool.bne_false] at inf ⊢
      repeat' (first | (simp (maxSteps := 1000000) only [seval, evB, exB, c_ref05_Mul, na, nb, ia, za, ib, zb, ga, gb, inf]) | (simp (maxSteps := 1000000) (disch := first | with_reducible assumption | omega) only [dxB]) | (simp only [kI_d, kG_dt, kG_df]; split) | (simp only [kI_v, kG_vt, kG_vf]; split))
      all_goals rfl)
    done)
  all_goals try rw [if_neg (show ¬ (F.cls a = 4 ∨ F.cls b = 4) by omega)]
  all_goals try (
    rw [if_pos (show F.cls a = 1 ∨ F.cls b = 1 by omega)]
    generalize F.ng a = x at *
    generalize F.ng b = y at *
    cases x <;> cases y <;> (
      simp only [bne_self_eq_false, Bool.false_bne, Bool.true_bne, Bool.not_true, Bool.not_false, Bool.bne_true, Bool.bne_false] at sg ⊢
      repeat' (first | (simp (maxSteps := 1000000) only [seval, evB, exB, c_ref05_Mul, na, nb, ia, za, ib, zb, ga, gb, sg]) | (simp (maxSteps := 1000000) (disch := first | with_reducible assumption | omega) only [dxB]) | (simp only [kI_d, kG_dt, kG_df]; split) | (simp only [kI_v, kG_vt, kG_vf]; split))
      all_goals rfl)
    done)
  rw [if_neg (show ¬ (F.cls a = 1 ∨ F.cls b = 1) by omega)]
  obtain ⟨z1, v1⟩ := ref03_Value J F (sg_64 ha) fa
  obtain ⟨z2, v2⟩ := ref03_Value J F (sg_64 hb) fb
  have m1 := val_cls ha ka fa
  have m2 := val_cls hb kb fb
  rw [← vl_val fa] at v1 m1
  rw [← vl_val fb] at v2 m2
  have b1 := Bd_vl F a
  have b2 := Bd_vl F b
  obtain ⟨p1, p2, p3⟩ := b1
  obtain ⟨q1, q2, q3⟩ := b2
  have hl1 := dl_len_blen (F.vl a).m
  have hl2 := dl_len_blen (F.vl b).m
  obtain ⟨z3, s1⟩ := ref02_Mul J (z := z1) (y := z2) (a := F.vl a) (b := F.vl b) (by omega) (by omega) (by omega) (by omega)
  have r1 := ref04_Round J F hm (z := z3) (Nz_mul (F.vl a) (F.vl b)) ((Bd_mul (Bd_vl F a) (Bd_vl F b)).mono (by decide))
  have hne : (F.vl a).m * (F.vl b).m ≠ 0 := by
    intro hc
    rcases Nat.mul_eq_zero.1 hc with h | h
    · exact m1 h
    · exact m2 h
  have hm0 : (mulD (F.vl a) (F.vl b)).m ≠ 0 := mkD_m0 hne _
  unfold sumW
  rw [if_neg hm0]
  rw [show mkD ((F.vl a).n != (F.vl b).n) ((F.vl a).m * (F.vl b).m) ((F.vl a).e + (F.vl b).e) = mulD (F.vl a) (F.vl b) from rfl] at s1
  generalize rndW F md (mulD (F.vl a) (F.vl b)) = S at *
  generalize mulD (F.vl a) (F.vl b) = s at *
  clear p1 p2 p3 q1 q2 q3 hl1 hl2 m1 m2 hne hm0
  generalize F.vl a = va at *
  generalize F.vl b = vb at *
  simp only [DyA, A3] at *
  repeat' (first | (simp (maxSteps := 1000000) only [seval, evB, exB, c_ref05_Mul, na, nb, ia, za, ib, zb, ga, gb, v1, v2, s1, r1]) | (simp (maxSteps := 1000000) (disch := first | with_reducible assumption | omega) only [dxB]) | (simp only [kI_d, kG_dt, kG_df]; split) | (simp only [kI_v, kG_vt, kG_vf]; split))
  all_goals try rfl
def apB (bs : List Blk) (f : List Nat) (b n : Nat) (o : Option Blk) (w : Option (List AV)) : Option (AV × Heap) :=
  match w with
  | some nw => match o with
    | some k => if k.dead = false ∧ f.contains b = false ∧ n * 5 ≤ k.cs.length ∧ (n + 1) * 49 ≤ boundBytes then some (.own bs.length 0 (n + 1) 5, ⟨bs.set b ⟨k.cs, true⟩ ++ [⟨k.cs.take (n * 5) ++ nw, false⟩], f⟩) else none
    | none => none
  | none => none
theorem ap_x (bs : List Blk) (f : List Nat) (b n c : Nat) : appV ⟨bs, f⟩ 5 48 (.own b 0 n 5) (.own c 0 1 5) = apB bs f b n (bs[b]?) (subB (bs[c]?) 0 5) := by
  have h1 := rdBlk_x bs f c 0 5
  simp only [appV, sliceCells, if_true, Nat.one_mul, h1]
  cases subB (bs[c]?) 0 5 with
  | none => rfl
  | some nw =>
    simp only [Option.map_some, apB]
    cases bs[b]? with
    | none => rfl
    | some k => simp
theorem ap_0 (bs : List Blk) (b : Nat) (cs nw : List AV) : apB bs [] b 0 (some ⟨cs, false⟩) (some nw) = some (.own bs.length 0 1 5, ⟨bs.set b ⟨cs, true⟩ ++ [⟨nw, false⟩], []⟩) := by
  simp [apB, boundBytes]
theorem ap_1 (bs : List Blk) (b : Nat) (x1 x2 x3 x4 x5 : AV) (nw : List AV) : apB bs [] b 1 (some ⟨[x1, x2, x3, x4, x5], false⟩) (some nw) = some (.own bs.length 0 2 5, ⟨bs.set b ⟨[x1, x2, x3, x4, x5], true⟩ ++ [⟨x1 :: x2 :: x3 :: x4 :: x5 :: nw, false⟩], []⟩) := by
  simp [apB, boundBytes]
theorem st_bs5 (F : CallF) (d : Option Nat) (os : List IOper) (e : Env) (h : Heap) (n : Nat) (zero : List AV) (ps : List (Nat × Nat × IOpd)) : evOps G F (⟨d, .bslice n 5 zero ps, none⟩ :: os) e h =
    kBs G F (fillA (repA n zero) (ps.map fun (o, n, x) => (o, n, opd e x))) (.own h.b.length 0 n 5) d os e h := st_bslice G F d os e h n 5 zero ps
theorem so_loop (e : Env) (h : Heap) : evL G T c_soft_open_l1 e h = kS G T (evL G T c_soft_open_b1 (keepE [0, 10, 31, 32, 33] e) h) c_soft_open_l1 := s_loopc G T rfl e h
theorem iw20 (x y : AV) (k : IntKind) : iaddrV 1 (.imm 2 [x, y]) (.int k 0) = some (.iptr [x, y] 0) := rfl
theorem iw21 (x y : AV) (k : IntKind) : iaddrV 1 (.imm 2 [x, y]) (.int k 1) = some (.iptr [x, y] 1) := rfl
theorem rp_0 (h : Mem) (x : AV) (l : List AV) : rdAt G h 1 (.iptr (x :: l) 0) = some [x] := by simp [rdAt]
theorem rp_1 (h : Mem) (x y : AV) (l : List AV) : rdAt G h 1 (.iptr (x :: y :: l) 1) = some [y] := by simp [rdAt]
theorem rp_2 (h : Mem) (x y z : AV) (l : List AV) : rdAt G h 1 (.iptr (x :: y :: z :: l) 2) = some [z] := by simp [rdAt]
theorem repA_3 (z : List AV) : repA 3 z = z ++ (z ++ z) := by simp [repA]
theorem wr_1 : IntKind.i64.wrap (0 + 1) = 1 := rfl
theorem wr_2 : IntKind.i64.wrap (1 + 1) = 2 := rfl
theorem wr_3 : IntKind.i64.wrap (2 + 1) = 3 := rfl
theorem wr1 : IntKind.i64.wrap 1 = 1 := rfl
theorem wr2 : IntKind.i64.wrap 2 = 2 := rfl
theorem wr3 : IntKind.i64.wrap 3 = 3 := rfl
def ptC (F : Fm) (w : Nat) (z : Bool) : List AV := [.int .u8 (F.cls w), .bool (F.ng w), .bool (F.vl w).n, D z (dl (F.vl w).m), .int .i64 (F.vl w).e]
set_option maxHeartbeats 8000000 in
theorem soft_open2 (J : Al G T g) (F : Fm) {md : Int} (hm : 1 ≤ md ∧ md ≤ 5) {a : Nat} {b : Nat} (ha : a < 2 * F.sg) (hb : b < 2 * F.sg) :
    ∃ z1 z2, run G T 176 [.int .u8 F.u, .int .u8 md, .imm 2 [.int .u64 (a : Int), .int .u64 (b : Int)]] = some (.tup [.imm 2 (ptC F a z1 ++ ptC F b z2), .int .i64 0]) := by
  have o1 := round_Over J F hm (neg := false)
  have s1 := word_Split J F ha
  have c1 := word_Class J F ha
  obtain ⟨z1, k1, v1⟩ := word_Value J F ha
  have s2 := word_Split J F hb
  have c2 := word_Class J F hb
  obtain ⟨z2, k2, v2⟩ := word_Value J F hb
  refine ⟨z1, z2, ?_⟩
  rw [run_k G T J.U.soft_open]
  unfold ptC
  generalize F.cls a = ca' at *
  generalize F.ng a = na' at *
  generalize F.ex a = xa' at *
  generalize F.fc a = ya' at *
  generalize F.vl a = va' at *
  generalize F.cls b = cb' at *
  generalize F.ng b = nb' at *
  generalize F.ex b = xb' at *
  generalize F.fc b = yb' at *
  generalize F.vl b = vb' at *
  simp only [fldA, DyA, A3, List.cons_append, List.nil_append] at *
  repeat' (first | (simp (maxSteps := 1000000) only [seval, evB, exB, c_soft_open, st_bs5, o1, s1, c1, v1, s2, c2, v2, so_loop, c_soft_open_b1, iw20, iw21, rp_0, rp_1, ap_0, ap_1, wr_1, wr1, wr_2, wr2, repA_2, ap_x, List.set_cons_zero, List.set_cons_succ, List.cons_append, List.nil_append ]) | (simp (maxSteps := 1000000) (disch := first | with_reducible assumption | omega) only [dxB,  kM_int]) | (simp only [kI_d, kG_dt, kG_df]; split) | (simp only [kI_v, kG_vt, kG_vf]; split))
end Go.Cv
namespace Go.Cv
variable {G : Nat → Option (List AV)} {T : Tbl} {g : Nat}
theorem hs_loop (e : Env) (h : Heap) : evL G T c_soft_has_l1 e h = kS G T (evL G T c_soft_has_b1 (keepE [0, 7, 8, 9] e) h) c_soft_has_l1 := s_loopc G T rfl e h
section
variable (a1 a2 a3 a4 a5 b1 b2 b3 b4 b5 c1 c2 c3 c4 c5 : AV) (k : IntKind)
theorem i5_20 : iaddrV 5 (.imm 2 [a1, a2, a3, a4, a5, b1, b2, b3, b4, b5]) (.int k 0) = some (.iptr [a1, a2, a3, a4, a5, b1, b2, b3, b4, b5] 0) := rfl
theorem i5_21 : iaddrV 5 (.imm 2 [a1, a2, a3, a4, a5, b1, b2, b3, b4, b5]) (.int k 1) = some (.iptr [a1, a2, a3, a4, a5, b1, b2, b3, b4, b5] 5) := rfl
theorem r5_0 (h : Mem) (l : List AV) : rdAt G h 5 (.iptr (a1 :: a2 :: a3 :: a4 :: a5 :: l) 0) = some [a1, a2, a3, a4, a5] := by simp [rdAt]
theorem r5_5 (h : Mem) (l : List AV) : rdAt G h 5 (.iptr (a1 :: a2 :: a3 :: a4 :: a5 :: b1 :: b2 :: b3 :: b4 :: b5 :: l) 5) = some [b1, b2, b3, b4, b5] := by simp [rdAt]
end
theorem soft_has2 (J : Al G T g) {k c c' : Int} {n s n' s' z z' : Bool} {l l' : List Nat} {e e' : Int} :
    run G T 178 [.int .u8 k, .imm 2 [.int .u8 c, .bool n, .bool s, D z l, .int .i64 e, .int .u8 c', .bool n', .bool s', D z' l', .int .i64 e']] = some (.bool (decide (c = k ∨ c' = k))) := by
  rw [run_k G T J.U.soft_has]
  by_cases h1 : c = k
  · rw [decide_eq_true (Or.inl h1)]
    repeat' (first | (simp (maxSteps := 1000000) only [seval, evB, exB, c_soft_has, hs_loop, c_soft_has_b1, i5_20, i5_21, r5_0, r5_5, wr_1, wr1, wr_2, wr2, h1]) | (simp (maxSteps := 1000000) (disch := first | with_reducible assumption | omega) only [dxB]) | (simp only [kI_d, kG_dt, kG_df]; split) | (simp only [kI_v, kG_vt, kG_vf]; split))
  · by_cases h2 : c' = k
    · rw [decide_eq_true (Or.inr h2)]
      repeat' (first | (simp (maxSteps := 1000000) only [seval, evB, exB, c_soft_has, hs_loop, c_soft_has_b1, i5_20, i5_21, r5_0, r5_5, wr_1, wr1, wr_2, wr2, h1, h2]) | (simp (maxSteps := 1000000) (disch := first | with_reducible assumption | omega) only [dxB]) | (simp only [kI_d, kG_dt, kG_df]; split) | (simp only [kI_v, kG_vt, kG_vf]; split))
    · rw [decide_eq_false (by omega)]
      repeat' (first | (simp (maxSteps := 1000000) only [seval, evB, exB, c_soft_has, hs_loop, c_soft_has_b1, i5_20, i5_21, r5_0, r5_5, wr_1, wr1, wr_2, wr2, h1, h2]) | (simp (maxSteps := 1000000) (disch := first | with_reducible assumption | omega) only [dxB]) | (simp only [kI_d, kG_dt, kG_df]; split) | (simp only [kI_v, kG_vt, kG_vf]; split))
def deskA (F : Fm) (md : Int) : AV := .agg [.int .u8 F.u, .int .u8 md]
def ptA (c : Int) (n z : Bool) (d : Dy) : AV := .agg [.int .u8 c, .bool n, .bool d.n, D z (dl d.m), .int .i64 d.e]
theorem desk_none (J : Al G T g) (F : Fm) {md x : Int} : run G T 179 [deskA F md, .int .u8 x] = some (.tup [.int .u64 (F.nan : Int), .int .u8 x, .int .i64 0]) := by
  rw [run_k G T J.U.soft_desk_none]
  have h1 := word_None J F
  simp only [deskA] at *
  repeat' (first | (simp (maxSteps := 1000000) only [seval, evB, exB, c_soft_desk_none, h1]) | (simp (maxSteps := 1000000) (disch := first | with_reducible assumption | omega) only [dxB]) | (simp only [kI_d, kG_dt, kG_df]; split) | (simp only [kI_v, kG_vt, kG_vf]; split))
theorem desk_inf (J : Al G T g) (F : Fm) {md x : Int} {n : Bool} : run G T 180 [deskA F md, .bool n, .int .u8 x] = some (.tup [.int .u64 ((F.inf n : Nat) : Int), .int .u8 x, .int .i64 0]) := by
  rw [run_k G T J.U.soft_desk_inf]
  have h1 := word_Inf J F (n := n)
  simp only [deskA] at *
  cases n <;> repeat' (first | (simp (maxSteps := 1000000) only [seval, evB, exB, c_soft_desk_inf, h1]) | (simp (maxSteps := 1000000) (disch := first | with_reducible assumption | omega) only [dxB]) | (simp only [kI_d, kG_dt, kG_df]; split) | (simp only [kI_v, kG_vt, kG_vf]; split))
theorem desk_zero (J : Al G T g) (F : Fm) {md : Int} {n : Bool} : run G T 181 [deskA F md, .bool n] = some (.tup [.int .u64 ((F.sgn n : Nat) : Int), .int .u8 0, .int .i64 0]) := by
  rw [run_k G T J.U.soft_desk_zero]
  have h1 := word_Zero J F (n := n)
  simp only [deskA] at *
  cases n <;> repeat' (first | (simp (maxSteps := 1000000) only [seval, evB, exB, c_soft_desk_zero, h1]) | (simp (maxSteps := 1000000) (disch := first | with_reducible assumption | omega) only [dxB]) | (simp only [kI_d, kG_dt, kG_df]; split) | (simp only [kI_v, kG_vt, kG_vf]; split))
theorem desk_sum (J : Al G T g) (F : Fm) {md : Int} (hm : 1 ≤ md ∧ md ≤ 5) {z : Bool} {d : Dy} (hz : Nz d) (hb : Bd d 131072) :
    run G T 183 [deskA F md, DyA z d] = some (.tup [.int .u64 ((sumW F md d).1 : Int), .int .u8 ((sumW F md d).2 : Int), .int .i64 0]) := by
  rw [run_k G T J.U.soft_desk_sum]
  have hmd := mayD_nzb hz hb
  have s1 := dyad_Sign J (n := d.n) (z := z) (Dg_dl d.m) (e := d.e)
  rw [sign_may hmd] at s1
  unfold sumW
  by_cases h0 : d.m = 0
  · rw [if_pos h0] at s1 ⊢
    have h1 := desk_zero J F (md := md) (n := decide (md = 5))
    simp only [deskA, DyA, A3] at *
    repeat' (first | (simp (maxSteps := 1000000) only [seval, evB, exB, c_soft_desk_sum, s1, h1]) | (simp (maxSteps := 1000000) (disch := first | with_reducible assumption | omega) only [dxB]) | (simp only [kI_d, kG_dt, kG_df]; split) | (simp only [kI_v, kG_vt, kG_vf]; split))
    all_goals try rfl
  · rw [if_neg h0] at s1 ⊢
    have h1 := round_Round J F hm (z := z) (d := d) hmd
    have c1 : ¬ (if d.n = true then (-1 : Int) else 1) = 0 := by split <;> decide
    generalize (if d.n = true then (-1 : Int) else 1) = sg at *
    generalize rndW F md d = S at *
    simp only [deskA, DyA, A3] at *
    repeat' (first | (simp (maxSteps := 1000000) only [seval, evB, exB, c_soft_desk_sum, s1, c1, h1]) | (simp (maxSteps := 1000000) (disch := first | with_reducible assumption | omega) only [dxB]) | (simp only [kI_d, kG_dt, kG_df]; split) | (simp only [kI_v, kG_vt, kG_vf]; split))
    all_goals try rfl
set_option maxHeartbeats 8000000 in
theorem desk_add (J : Al G T g) (F : Fm) {md : Int} (hm : 1 ≤ md ∧ md ≤ 5) {c c' : Int} {n n' z z' : Bool} {d d' : Dy}
    (hz : Nz d) (hz' : Nz d') (hb : Bd d 16384) (hb' : Bd d' 16384) :
    run G T 177 [deskA F md, ptA c n z d, ptA c' n' z' d'] = some (.tup [.int .u64 ((addP F md c n d c' n' d').1 : Int), .int .u8 ((addP F md c n d c' n' d').2 : Int), .int .i64 0]) := by
  rw [run_k G T J.U.soft_desk_add]
  have h5 := soft_has2 J (k := 5) (c := c) (c' := c') (n := n) (s := d.n) (n' := n') (s' := d'.n) (z := z) (z' := z') (l := dl d.m) (l' := dl d'.m) (e := d.e) (e' := d'.e)
  have nn := fun x => desk_none J F (md := md) (x := x)
  have inf := fun m => desk_inf J F (md := md) (x := 0) (n := m)
  have ze := fun m => desk_zero J F (md := md) (n := m)
  unfold addP
  by_cases a5 : c = 5 ∨ c' = 5
  · rw [decide_eq_true a5] at h5
    rw [if_pos a5]
    simp only [deskA, ptA] at *
    repeat' (first | (simp (maxSteps := 1000000) only [seval, evB, exB, c_soft_desk_add, st_bs5, h5, nn]) | (simp (maxSteps := 1000000) (disch := first | with_reducible assumption | omega) only [dxB]) | (simp only [kI_d, kG_dt, kG_df]; split) | (simp only [kI_v, kG_vt, kG_vf]; split))
    all_goals try rfl
  · rw [decide_eq_false a5] at h5
    rw [if_neg a5]
    by_cases a4 : c = 4
    · by_cases b4 : c' = 4
      · by_cases hn : n = n'
        · rw [if_neg (show ¬ (c = 4 ∧ c' = 4 ∧ n ≠ n') from fun h => h.2.2 hn), if_pos a4]
          have i1 := inf n'
          subst a4 b4 hn
          simp only [deskA, ptA] at *
          cases n <;> (
            repeat' (first | (simp (maxSteps := 1000000) only [seval, evB, exB, c_soft_desk_add, st_bs5, h5, i1]) | (simp (maxSteps := 1000000) (disch := first | with_reducible assumption | omega) only [dxB]) | (simp only [kI_d, kG_dt, kG_df]; split) | (simp only [kI_v, kG_vt, kG_vf]; split))
            all_goals try rfl)
        · rw [if_pos (show c = 4 ∧ c' = 4 ∧ n ≠ n' from ⟨a4, b4, hn⟩)]
          subst a4 b4
          simp only [deskA, ptA] at *
          cases n <;> cases n' <;> first | exact absurd rfl hn | (
            repeat' (first | (simp (maxSteps := 1000000) only [seval, evB, exB, c_soft_desk_add, st_bs5, h5, nn]) | (simp (maxSteps := 1000000) (disch := first | with_reducible assumption | omega) only [dxB]) | (simp only [kI_d, kG_dt, kG_df]; split) | (simp only [kI_v, kG_vt, kG_vf]; split))
            all_goals try rfl)
      · rw [if_neg (show ¬ (c = 4 ∧ c' = 4 ∧ n ≠ n') by omega), if_pos a4]
        have i1 := inf n
        subst a4
        simp only [deskA, ptA] at *
        cases n <;> (
          repeat' (first | (simp (maxSteps := 1000000) only [seval, evB, exB, c_soft_desk_add, st_bs5, h5, b4, i1]) | (simp (maxSteps := 1000000) (disch := first | with_reducible assumption | omega) only [dxB]) | (simp only [kI_d, kG_dt, kG_df]; split) | (simp only [kI_v, kG_vt, kG_vf]; split))
          all_goals try rfl)
    · rw [if_neg (show ¬ (c = 4 ∧ c' = 4 ∧ n ≠ n') by omega), if_neg a4]
      by_cases b4 : c' = 4
      · rw [if_pos b4]
        have i1 := inf n'
        subst b4
        simp only [deskA, ptA] at *
        cases n' <;> (
          repeat' (first | (simp (maxSteps := 1000000) only [seval, evB, exB, c_soft_desk_add, st_bs5, h5, a4, i1]) | (simp (maxSteps := 1000000) (disch := first | with_reducible assumption | omega) only [dxB]) | (simp only [kI_d, kG_dt, kG_df]; split) | (simp only [kI_v, kG_vt, kG_vf]; split))
          all_goals try rfl)
      · rw [if_neg b4]
        by_cases h1 : c = 1 ∧ c' = 1 ∧ n = n'
        · rw [if_pos h1]
          have i1 := ze n
          obtain ⟨k1, k2, k3⟩ := h1
          subst k1 k2 k3
          simp only [deskA, ptA] at *
          cases n <;> (
            repeat' (first | (simp (maxSteps := 1000000) only [seval, evB, exB, c_soft_desk_add, st_bs5, h5, i1]) | (simp (maxSteps := 1000000) (disch := first | with_reducible assumption | omega) only [dxB]) | (simp only [kI_d, kG_dt, kG_df]; split) | (simp only [kI_v, kG_vt, kG_vf]; split))
            all_goals try rfl)
        · rw [if_neg h1]
          obtain ⟨z3, s1⟩ := dyad_Add J (z := z) (y := z') hb hb' (mayD_nzb hz (hb.mono (by decide))) (mayD_nzb hz' (hb'.mono (by decide)))
          have s2 := desk_sum J F hm (z := z3) (Nz_add hz hz') ((Bd_add hb hb').mono (by decide))
          generalize sumW F md (addD d d') = S at *
          generalize addD d d' = s at *
          have hk : ¬ c = 1 ∨ (c = 1 ∧ ¬ c' = 1) ∨ (c = 1 ∧ c' = 1 ∧ n ≠ n') := by
            by_cases q1 : c = 1
            · by_cases q2 : c' = 1
              · right; right; exact ⟨q1, q2, fun h => h1 ⟨q1, q2, h⟩⟩
              · right; left; exact ⟨q1, q2⟩
            · left; exact q1
          clear h1 hb hb' hz hz' inf ze nn
          simp only [deskA, ptA, DyA, A3] at *
          rcases hk with k1 | ⟨k1, k2⟩ | ⟨k1, k2, k3⟩
          · repeat' (first | (simp (maxSteps := 1000000) only [seval, evB, exB, c_soft_desk_add, st_bs5, h5, a4, b4, k1, s1, s2]) | (simp (maxSteps := 1000000) (disch := first | with_reducible assumption | omega) only [dxB]) | (simp only [kI_d, kG_dt, kG_df]; split) | (simp only [kI_v, kG_vt, kG_vf]; split))
            all_goals try rfl
          · subst k1
            repeat' (first | (simp (maxSteps := 1000000) only [seval, evB, exB, c_soft_desk_add, st_bs5, h5, a4, b4, k2, s1, s2]) | (simp (maxSteps := 1000000) (disch := first | with_reducible assumption | omega) only [dxB]) | (simp only [kI_d, kG_dt, kG_df]; split) | (simp only [kI_v, kG_vt, kG_vf]; split))
            all_goals try rfl
          · subst k1 k2
            cases n <;> cases n' <;> first | exact absurd rfl k3 | (
              repeat' (first | (simp (maxSteps := 1000000) only [seval, evB, exB, c_soft_desk_add, st_bs5, h5, s1, s2]) | (simp (maxSteps := 1000000) (disch := first | with_reducible assumption | omega) only [dxB]) | (simp only [kI_d, kG_dt, kG_df]; split) | (simp only [kI_v, kG_vt, kG_vf]; split))
              all_goals try rfl)
end Go.Cv
namespace Go.Cv
variable {G : Nat → Option (List AV)} {T : Tbl} {g : Nat}
theorem apart_ip (cs : List AV) (o b o' : Nat) : apart (.iptr cs o) (.ptr b o') = true := rfl
theorem soft_Add (J : Al G T g) (F : Fm) {md : Int} (hm : 1 ≤ md ∧ md ≤ 5) {a b : Nat} (ha : a < 2 * F.sg) (hb : b < 2 * F.sg) :
    run G T 164 [.int .u8 F.u, .int .u8 md, .int .u64 (a : Int), .int .u64 (b : Int)] = some (.tup [.int .u64 ((addW F md a b).1 : Int), .int .u8 ((addW F md a b).2 : Int), .int .i64 0]) := by
  rw [run_k G T J.U.soft_Add]
  obtain ⟨z1, z2, o1⟩ := soft_open2 J F hm ha hb
  have s1 := desk_add J F hm (c := F.cls a) (n := F.ng a) (z := z1) (d := F.vl a) (c' := F.cls b) (n' := F.ng b) (z' := z2) (d' := F.vl b) (Nz_vl F a) (Nz_vl F b) ((Bd_vl F a).mono (by decide)) ((Bd_vl F b).mono (by decide))
  unfold addW
  generalize addP F md (F.cls a) (F.ng a) (F.vl a) (F.cls b) (F.ng b) (F.vl b) = S at *
  unfold ptC at o1
  generalize F.cls a = ca at *
  generalize F.ng a = na at *
  generalize F.vl a = va at *
  generalize F.cls b = cb at *
  generalize F.ng b = nb at *
  generalize F.vl b = vb at *
  simp only [deskA, ptA, List.cons_append, List.nil_append] at *
  repeat' (first | (simp (maxSteps := 1000000) only [seval, evB, exB, c_soft_Add, o1, i5_20, i5_21, r5_0, r5_5, s1]) | (simp (maxSteps := 1000000) (disch := first | with_reducible assumption | omega) only [dxB]) | (simp only [kI_d, kG_dt, kG_df]; split) | (simp only [kI_v, kG_vt, kG_vf]; split))
  all_goals try rfl
end Go.Cv
namespace Go.Cv
variable {G : Nat → Option (List AV)} {T : Tbl} {g : Nat}
theorem op5_loop (e : Env) (h : Heap) : evL G T c_ref05_Opens_l1 e h = kS G T (evL G T c_ref05_Opens_b1 (keepE [0, 2, 7] e) h) c_ref05_Opens_l1 := s_loopc G T rfl e h
theorem ref05_Opens_no (J : Al G T g) {f md : Int} (h : ¬ (f = 1 ∨ f = 2)) {v : AV} : run G T 162 [.int .u8 f, .int .u8 md, v] = some (.int .i64 4) := by
  rw [run_k G T J.U.ref05_Opens]
  have h1 := ref03_Is J (f := f)
  rw [decide_eq_false h] at h1
  repeat' (first | (simp (maxSteps := 1000000) only [seval, evB, exB, c_ref05_Opens, h1]) | (simp (maxSteps := 1000000) (disch := first | with_reducible assumption | omega) only [dxB]) | (simp only [kI_d, kG_dt, kG_df]; split) | (simp only [kI_v, kG_vt, kG_vf]; split))
theorem ref05_Opens_mode (J : Al G T g) (F : Fm) {md : Int} (h : ¬ (1 ≤ md ∧ md ≤ 5)) {v : AV} : run G T 162 [.int .u8 F.u, .int .u8 md, v] = some (.int .i64 5) := by
  rw [run_k G T J.U.ref05_Opens]
  have h1 := ref03_IsF J F
  have h2 := ref04_Is J (m := md)
  rw [decide_eq_false h] at h2
  repeat' (first | (simp (maxSteps := 1000000) only [seval, evB, exB, c_ref05_Opens, h1, h2]) | (simp (maxSteps := 1000000) (disch := first | with_reducible assumption | omega) only [dxB]) | (simp only [kI_d, kG_dt, kG_df]; split) | (simp only [kI_v, kG_vt, kG_vf]; split))
theorem ref05_Opens0 (J : Al G T g) (F : Fm) {md : Int} (hm : 1 ≤ md ∧ md ≤ 5) : run G T 162 [.int .u8 F.u, .int .u8 md, .nil] = some (.int .i64 0) := by
  rw [run_k G T J.U.ref05_Opens]
  have h1 := ref03_IsF J F
  have h2 := ref04_Is J (m := md)
  rw [decide_eq_true hm] at h2
  repeat' (first | (simp (maxSteps := 1000000) only [seval, evB, exB, c_ref05_Opens, h1, h2, op5_loop, c_ref05_Opens_b1]) | (simp (maxSteps := 1000000) (disch := first | with_reducible assumption | omega) only [dxB]) | (simp only [kI_d, kG_dt, kG_df]; split) | (simp only [kI_v, kG_vt, kG_vf]; split))
section
variable {f md a b c e : Int}
end
end Go.Cv
namespace Go.Cv
variable {G : Nat → Option (List AV)} {T : Tbl} {g : Nat}
def zA (a b : Nat) : AV := .agg [.int .u64 (a : Int), .int .u64 (b : Int)]
def zcl (c c' : Int) : Int := if c = 4 ∨ c' = 4 then 3 else if c = 5 ∨ c' = 5 then 4 else if c = 1 ∧ c' = 1 then 1 else 2
def sqD (F : Fm) (a b : Nat) : Dy := addD (mulD (F.vl a) (F.vl a)) (mulD (F.vl b) (F.vl b))
theorem word_Class_bad (J : Al G T g) (F : Fm) {w : Nat} (hw : w < 18446744073709551616) (hb : ¬ w < 2 * F.sg) : run G T 193 [.int .u8 F.u, .int .u64 (w : Int)] = some (.tup [.int .u8 0, .int .i64 6]) := by
  rw [run_k G T J.U.word_Class]
  have h1 := word_open1 J F hw
  rw [if_neg hb] at h1
  simp only [shA] at *
  repeat' (first | (simp (maxSteps := 1000000) only [seval, evB, exB, c_word_Class, h1]) | (simp (maxSteps := 1000000) (disch := first | with_reducible assumption | omega) only [dxB]) | (simp only [kI_d, kG_dt, kG_df]; split) | (simp only [kI_v, kG_vt, kG_vf]; split))
theorem pair_Class (J : Al G T g) (F : Fm) {a b : Nat} (ha : a < 2 * F.sg) (hb : b < 2 * F.sg) : run G T 189 [.int .u8 F.u, zA a b] = some (.tup [.int .u8 (zcl (F.cls a) (F.cls b)), .int .i64 0]) := by
  rw [run_k G T J.U.pair_Class]
  have h1 := word_Class J F ha
  have h2 := word_Class J F hb
  unfold zcl
  generalize F.cls a = c at *
  generalize F.cls b = d at *
  simp only [zA] at *
  by_cases q4 : c = 4 ∨ d = 4
  · rw [if_pos q4]
    by_cases k : c = 4
    · repeat' (first | (simp (maxSteps := 1000000) only [seval, evB, exB, c_pair_Class, h1, h2, k]) | (simp (maxSteps := 1000000) (disch := first | with_reducible assumption | omega) only [dxB]) | (simp only [kI_d, kG_dt, kG_df]; split) | (simp only [kI_v, kG_vt, kG_vf]; split))
    · have k2 : d = 4 := by omega
      repeat' (first | (simp (maxSteps := 1000000) only [seval, evB, exB, c_pair_Class, h1, h2, k, k2]) | (simp (maxSteps := 1000000) (disch := first | with_reducible assumption | omega) only [dxB]) | (simp only [kI_d, kG_dt, kG_df]; split) | (simp only [kI_v, kG_vt, kG_vf]; split))
  · rw [if_neg q4]
    have k1 : ¬ c = 4 := by omega
    have k2 : ¬ d = 4 := by omega
    by_cases q5 : c = 5 ∨ d = 5
    · rw [if_pos q5]
      by_cases k : c = 5
      · subst k; repeat' (first | (simp (maxSteps := 1000000) only [seval, evB, exB, c_pair_Class, h1, h2, k2]) | (simp (maxSteps := 1000000) (disch := first | with_reducible assumption | omega) only [dxB]) | (simp only [kI_d, kG_dt, kG_df]; split) | (simp only [kI_v, kG_vt, kG_vf]; split))
      · have k3 : d = 5 := by omega
        subst k3; repeat' (first | (simp (maxSteps := 1000000) only [seval, evB, exB, c_pair_Class, h1, h2, k, k1]) | (simp (maxSteps := 1000000) (disch := first | with_reducible assumption | omega) only [dxB]) | (simp only [kI_d, kG_dt, kG_df]; split) | (simp only [kI_v, kG_vt, kG_vf]; split))
    · rw [if_neg q5]
      have k3 : ¬ c = 5 := by omega
      have k4 : ¬ d = 5 := by omega
      by_cases q1 : c = 1 ∧ d = 1
      · rw [if_pos q1]
        obtain ⟨rfl, rfl⟩ := q1
        repeat' (first | (simp (maxSteps := 1000000) only [seval, evB, exB, c_pair_Class, h1, h2]) | (simp (maxSteps := 1000000) (disch := first | with_reducible assumption | omega) only [dxB]) | (simp only [kI_d, kG_dt, kG_df]; split) | (simp only [kI_v, kG_vt, kG_vf]; split))
      · rw [if_neg q1]
        by_cases k5 : c = 1
        · have k6 : ¬ d = 1 := fun h => q1 ⟨k5, h⟩
          subst k5; repeat' (first | (simp (maxSteps := 1000000) only [seval, evB, exB, c_pair_Class, h1, h2, k2, k4, k6]) | (simp (maxSteps := 1000000) (disch := first | with_reducible assumption | omega) only [dxB]) | (simp only [kI_d, kG_dt, kG_df]; split) | (simp only [kI_v, kG_vt, kG_vf]; split))
        · repeat' (first | (simp (maxSteps := 1000000) only [seval, evB, exB, c_pair_Class, h1, h2, k1, k2, k3, k4, k5]) | (simp (maxSteps := 1000000) (disch := first | with_reducible assumption | omega) only [dxB]) | (simp only [kI_d, kG_dt, kG_df]; split) | (simp only [kI_v, kG_vt, kG_vf]; split))
theorem pair_Class_bad (J : Al G T g) (F : Fm) {a b : Nat} (ha : a < 18446744073709551616) (hb : b < 18446744073709551616) (h : ¬ (a < 2 * F.sg ∧ b < 2 * F.sg)) : run G T 189 [.int .u8 F.u, zA a b] = some (.tup [.int .u8 0, .int .i64 6]) := by
  rw [run_k G T J.U.pair_Class]
  by_cases k1 : a < 2 * F.sg
  · have h1 := word_Class J F k1
    have h2 := word_Class_bad J F hb (fun q => h ⟨k1, q⟩)
    generalize F.cls a = c at *
    simp only [zA] at *
    repeat' (first | (simp (maxSteps := 1000000) only [seval, evB, exB, c_pair_Class, h1, h2]) | (simp (maxSteps := 1000000) (disch := first | with_reducible assumption | omega) only [dxB]) | (simp only [kI_d, kG_dt, kG_df]; split) | (simp only [kI_v, kG_vt, kG_vf]; split))
  · have h1 := word_Class_bad J F ha k1
    simp only [zA] at *
    repeat' (first | (simp (maxSteps := 1000000) only [seval, evB, exB, c_pair_Class, h1]) | (simp (maxSteps := 1000000) (disch := first | with_reducible assumption | omega) only [dxB]) | (simp only [kI_d, kG_dt, kG_df]; split) | (simp only [kI_v, kG_vt, kG_vf]; split))
theorem Bd_sq (F : Fm) (a b : Nat) : Bd (sqD F a b) 65537 := (Bd_add (Bd_mul (Bd_vl F a) (Bd_vl F a)) (Bd_mul (Bd_vl F b) (Bd_vl F b))).mono (by decide)
theorem Nz_sq (F : Fm) (a b : Nat) : Nz (sqD F a b) := Nz_add (Nz_mul _ _) (Nz_mul _ _)
end Go.Cv
namespace Go.Cv
variable {G : Nat → Option (List AV)} {T : Tbl} {g : Nat}
theorem ref10_Class (J : Al G T g) (F : Fm) {a b : Nat} (ha : a < 2 * F.sg) (hb : b < 2 * F.sg) : run G T 237 [.int .u8 F.u, zA a b] = some (.int .u8 (zcl (F.cls a) (F.cls b))) := by
  rw [run_k G T J.H.ref10_Class]
  have h1 := ref03_Class J F (sg_64 ha)
  have h2 := ref03_Class J F (sg_64 hb)
  unfold zcl
  generalize F.cls a = c at *
  generalize F.cls b = d at *
  simp only [zA] at *
  by_cases q4 : c = 4 ∨ d = 4
  · rw [if_pos q4]
    by_cases k : c = 4
    · repeat' (first | (simp (maxSteps := 1000000) only [seval, evB, exB, c_ref10_Class, h1, h2, k]) | (simp (maxSteps := 1000000) (disch := first | with_reducible assumption | omega) only [dxB]) | (simp only [kI_d, kG_dt, kG_df]; split) | (simp only [kI_v, kG_vt, kG_vf]; split))
    · have k2 : d = 4 := by omega
      repeat' (first | (simp (maxSteps := 1000000) only [seval, evB, exB, c_ref10_Class, h1, h2, k, k2]) | (simp (maxSteps := 1000000) (disch := first | with_reducible assumption | omega) only [dxB]) | (simp only [kI_d, kG_dt, kG_df]; split) | (simp only [kI_v, kG_vt, kG_vf]; split))
  · rw [if_neg q4]
    have k1 : ¬ c = 4 := by omega
    have k2 : ¬ d = 4 := by omega
    by_cases q5 : c = 5 ∨ d = 5
    · rw [if_pos q5]
      by_cases k : c = 5
      · subst k; repeat' (first | (simp (maxSteps := 1000000) only [seval, evB, exB, c_ref10_Class, h1, h2, k2]) | (simp (maxSteps := 1000000) (disch := first | with_reducible assumption | omega) only [dxB]) | (simp only [kI_d, kG_dt, kG_df]; split) | (simp only [kI_v, kG_vt, kG_vf]; split))
      · have k3 : d = 5 := by omega
        subst k3; repeat' (first | (simp (maxSteps := 1000000) only [seval, evB, exB, c_ref10_Class, h1, h2, k, k1]) | (simp (maxSteps := 1000000) (disch := first | with_reducible assumption | omega) only [dxB]) | (simp only [kI_d, kG_dt, kG_df]; split) | (simp only [kI_v, kG_vt, kG_vf]; split))
    · rw [if_neg q5]
      have k3 : ¬ c = 5 := by omega
      have k4 : ¬ d = 5 := by omega
      by_cases q1 : c = 1 ∧ d = 1
      · rw [if_pos q1]
        obtain ⟨rfl, rfl⟩ := q1
        repeat' (first | (simp (maxSteps := 1000000) only [seval, evB, exB, c_ref10_Class, h1, h2]) | (simp (maxSteps := 1000000) (disch := first | with_reducible assumption | omega) only [dxB]) | (simp only [kI_d, kG_dt, kG_df]; split) | (simp only [kI_v, kG_vt, kG_vf]; split))
      · rw [if_neg q1]
        by_cases k5 : c = 1
        · have k6 : ¬ d = 1 := fun h => q1 ⟨k5, h⟩
          subst k5; repeat' (first | (simp (maxSteps := 1000000) only [seval, evB, exB, c_ref10_Class, h1, h2, k2, k4, k6]) | (simp (maxSteps := 1000000) (disch := first | with_reducible assumption | omega) only [dxB]) | (simp only [kI_d, kG_dt, kG_df]; split) | (simp only [kI_v, kG_vt, kG_vf]; split))
        · repeat' (first | (simp (maxSteps := 1000000) only [seval, evB, exB, c_ref10_Class, h1, h2, k1, k2, k3, k4, k5]) | (simp (maxSteps := 1000000) (disch := first | with_reducible assumption | omega) only [dxB]) | (simp only [kI_d, kG_dt, kG_df]; split) | (simp only [kI_v, kG_vt, kG_vf]; split))
theorem gd_loop (e : Env) (h : Heap) : evL G T c_ref10_Good_l1 e h = kS G T (evL G T c_ref10_Good_b1 (keepE [0, 1, 5] e) h) c_ref10_Good_l1 := s_loopc G T rfl e h
section
variable (x y u v : AV) (k : IntKind)
theorem i2_20 : iaddrV 2 (.imm 2 [x, y, u, v]) (.int k 0) = some (.iptr [x, y, u, v] 0) := rfl
theorem i2_21 : iaddrV 2 (.imm 2 [x, y, u, v]) (.int k 1) = some (.iptr [x, y, u, v] 2) := rfl
theorem fa_i (off o : Nat) (cs : List AV) : faddrA off (.iptr cs o) = some (.iptr cs (o + off)) := rfl
theorem rp_3 (h : Mem) (l : List AV) : rdAt G h 1 (.iptr (x :: y :: u :: v :: l) 3) = some [v] := by simp [rdAt]
end
theorem st_bs2 (F : CallF) (d : Option Nat) (os : List IOper) (e : Env) (h : Heap) (n : Nat) (zero : List AV) (ps : List (Nat × Nat × IOpd)) : evOps G F (⟨d, .bslice n 2 zero ps, none⟩ :: os) e h =
    kBs G F (fillA (repA n zero) (ps.map fun (o, n, x) => (o, n, opd e x))) (.own h.b.length 0 n 2) d os e h := st_bslice G F d os e h n 2 zero ps
theorem ref10_Good2 (J : Al G T g) (F : Fm) {a b c d : Nat} (ha : a < 18446744073709551616) (hb : b < 18446744073709551616) (hc : c < 18446744073709551616) (hd : d < 18446744073709551616) :
    run G T 185 [.int .u8 F.u, .imm 2 [.int .u64 (a : Int), .int .u64 (b : Int), .int .u64 (c : Int), .int .u64 (d : Int)]] = some (.int .i64 (if (a < 2 * F.sg ∧ b < 2 * F.sg) ∧ (c < 2 * F.sg ∧ d < 2 * F.sg) then 0 else 6)) := by
  rw [run_k G T J.U.ref10_Good]
  have h1 := ref03_IsF J F
  have h3 := ref03_Good J F ha
  have h4 := ref03_Good J F hb
  have h5 := ref03_Good J F hc
  have h6 := ref03_Good J F hd
  by_cases k1 : a < 2 * F.sg
  · rw [if_pos k1] at h3
    by_cases k2 : b < 2 * F.sg
    · rw [if_pos k2] at h4
      by_cases k3 : c < 2 * F.sg
      · rw [if_pos k3] at h5
        by_cases k4 : d < 2 * F.sg
        · rw [if_pos k4] at h6
          rw [if_pos ⟨⟨k1, k2⟩, k3, k4⟩]
          repeat' (first | (simp (maxSteps := 1000000) only [seval, evB, exB, c_ref10_Good, h1, gd_loop, c_ref10_Good_b1, i2_20, i2_21, fa_i, rp_0, rp_1, rp_2, rp_3, wr_1, wr1, wr_2, wr2, h3, h4, h5, h6]) | (simp (maxSteps := 1000000) (disch := first | with_reducible assumption | omega) only [dxB]) | (simp only [kI_d, kG_dt, kG_df]; split) | (simp only [kI_v, kG_vt, kG_vf]; split))
        · rw [if_neg k4] at h6
          rw [if_neg (fun h => k4 h.2.2)]
          repeat' (first | (simp (maxSteps := 1000000) only [seval, evB, exB, c_ref10_Good, h1, gd_loop, c_ref10_Good_b1, i2_20, i2_21, fa_i, rp_0, rp_1, rp_2, rp_3, wr_1, wr1, wr_2, wr2, h3, h4, h5, h6]) | (simp (maxSteps := 1000000) (disch := first | with_reducible assumption | omega) only [dxB]) | (simp only [kI_d, kG_dt, kG_df]; split) | (simp only [kI_v, kG_vt, kG_vf]; split))
      · rw [if_neg k3] at h5
        rw [if_neg (fun h => k3 h.2.1)]
        repeat' (first | (simp (maxSteps := 1000000) only [seval, evB, exB, c_ref10_Good, h1, gd_loop, c_ref10_Good_b1, i2_20, i2_21, fa_i, rp_0, rp_1, rp_2, rp_3, wr_1, wr1, wr_2, wr2, h3, h4, h5]) | (simp (maxSteps := 1000000) (disch := first | with_reducible assumption | omega) only [dxB]) | (simp only [kI_d, kG_dt, kG_df]; split) | (simp only [kI_v, kG_vt, kG_vf]; split))
    · rw [if_neg k2] at h4
      rw [if_neg (fun h => k2 h.1.2)]
      repeat' (first | (simp (maxSteps := 1000000) only [seval, evB, exB, c_ref10_Good, h1, gd_loop, c_ref10_Good_b1, i2_20, i2_21, fa_i, rp_0, rp_1, rp_2, rp_3, wr_1, wr1, wr_2, wr2, h3, h4]) | (simp (maxSteps := 1000000) (disch := first | with_reducible assumption | omega) only [dxB]) | (simp only [kI_d, kG_dt, kG_df]; split) | (simp only [kI_v, kG_vt, kG_vf]; split))
  · rw [if_neg k1] at h3
    rw [if_neg (fun h => k1 h.1.1)]
    repeat' (first | (simp (maxSteps := 1000000) only [seval, evB, exB, c_ref10_Good, h1, gd_loop, c_ref10_Good_b1, i2_20, i2_21, fa_i, rp_0, rp_1, rp_2, rp_3, wr_1, wr1, wr_2, wr2, h3]) | (simp (maxSteps := 1000000) (disch := first | with_reducible assumption | omega) only [dxB]) | (simp only [kI_d, kG_dt, kG_df]; split) | (simp only [kI_v, kG_vt, kG_vf]; split))
end Go.Cv
namespace Go.Cv
variable {G : Nat → Option (List AV)} {T : Tbl} {g : Nat}
def Fm.can (F : Fm) (w : Nat) : Nat := if F.cls w = 5 then F.nan else w
def Fm.min (F : Fm) (w : Nat) : Nat := if F.cls w = 5 then F.nan else F.flip w
theorem nan_facts (F : Fm) : F.nan < 2 * F.sg ∧ F.cls F.nan = 5 ∧ F.vl F.nan = ⟨false, 0, 0⟩ := by
  have h1 : F.cls F.nan = 5 := by cases F <;> decide
  refine ⟨by cases F <;> decide, h1, if_neg ?_⟩
  rw [fin_iff, h1]; decide
def Sim (F : Fm) (a b : Nat) : Prop := F.cls a = F.cls b ∧ mulD (F.vl a) (F.vl a) = mulD (F.vl b) (F.vl b)
theorem Sim.refl (F : Fm) (a : Nat) : Sim F a a := ⟨rfl, rfl⟩
theorem Sim.trans {F : Fm} {a b c : Nat} (h : Sim F a b) (k : Sim F b c) : Sim F a c := ⟨h.1.trans k.1, h.2.trans k.2⟩
theorem vl_five {F : Fm} {w : Nat} (h : F.cls w = 5) : F.vl w = ⟨false, 0, 0⟩ := if_neg (by rw [fin_iff, h]; decide)
theorem can_sim {F : Fm} {w : Nat} (hw : w < 2 * F.sg) : F.can w < 2 * F.sg ∧ Sim F (F.can w) w := by
  obtain ⟨n1, n2, n3⟩ := nan_facts F
  unfold Fm.can
  by_cases h : F.cls w = 5
  · rw [if_pos h]; exact ⟨n1, by rw [n2, h], by rw [n3, vl_five h]⟩
  · rw [if_neg h]; exact ⟨hw, Sim.refl F w⟩
theorem neg_mul (d : Dy) : mulD (negD d) (negD d) = mulD d d := by
  unfold negD
  split
  · rfl
  · unfold mulD; simp only; cases d.n <;> rfl
theorem min_sim {F : Fm} {w : Nat} (hw : w < 2 * F.sg) : F.min w < 2 * F.sg ∧ Sim F (F.min w) w := by
  obtain ⟨n1, n2, n3⟩ := nan_facts F
  unfold Fm.min
  by_cases h : F.cls w = 5
  · rw [if_pos h]; exact ⟨n1, by rw [n2, h], by rw [n3, vl_five h]⟩
  · rw [if_neg h]
    obtain ⟨f1, f2, f3, f4⟩ := flip_facts hw
    exact ⟨f1, f3, by rw [f4, neg_mul]⟩
theorem mulD_z0 {a b : Dy} (h : a.m = 0 ∨ b.m = 0) : mulD a b = ⟨false, 0, 0⟩ := by
  unfold mulD
  rcases h with h | h
  · rw [h, Nat.zero_mul]; rfl
  · rw [h, Nat.mul_zero]; rfl
theorem ref03_Canon (J : Al G T g) (F : Fm) {w : Nat} (hw : w < 2 * F.sg) : run G T 173 [.int .u8 F.u, .int .u64 (w : Int)] = some (.int .u64 (F.can w : Int)) := by
  rw [run_k G T J.U.ref03_Canon]
  have h1 := ref03_Class J F (sg_64 hw)
  have h2 := ref03_None J F
  unfold Fm.can
  generalize F.cls w = c at *
  by_cases h : c = 5
  · rw [if_pos h]; subst h; repeat' (first | (simp (maxSteps := 1000000) only [seval, evB, exB, c_ref03_Canon, h1, h2]) | (simp (maxSteps := 1000000) (disch := first | with_reducible assumption | omega) only [dxB]) | (simp only [kI_d, kG_dt, kG_df]; split) | (simp only [kI_v, kG_vt, kG_vf]; split))
  · rw [if_neg h]; repeat' (first | (simp (maxSteps := 1000000) only [seval, evB, exB, c_ref03_Canon, h1, h2, h]) | (simp (maxSteps := 1000000) (disch := first | with_reducible assumption | omega) only [dxB]) | (simp only [kI_d, kG_dt, kG_df]; split) | (simp only [kI_v, kG_vt, kG_vf]; split))
theorem fd_3 (b : Bool) (x y : AV) : fieldA false 0 1 (.agg [.bool b, x, y]) = some (.bool b) := rfl
theorem ref10_Minus (J : Al G T g) (F : Fm) {w : Nat} (hw : w < 2 * F.sg) : run G T 188 [.int .u8 F.u, .int .u64 (w : Int)] = some (.int .u64 (F.min w : Int)) := by
  rw [run_k G T J.U.ref10_Minus]
  have h1 := ref03_Class J F (sg_64 hw)
  have h2 := ref03_None J F
  have h3 := ref03_Split J F (sg_64 hw)
  have h4 := ref03_Signed J F (n := !F.ng w) (w := w)
  rw [show w % F.sg + F.sgn (!F.ng w) = F.flip w from rfl] at h4
  unfold Fm.min
  generalize F.flip w = fw at *
  generalize F.cls w = c at *
  generalize F.ex w = x at *
  generalize F.fc w = y at *
  generalize F.ng w = n at *
  simp only [fldA] at *
  by_cases h : c = 5
  · rw [if_pos h]; subst h; repeat' (first | (simp (maxSteps := 1000000) only [seval, evB, exB, c_ref10_Minus, h1, h2]) | (simp (maxSteps := 1000000) (disch := first | with_reducible assumption | omega) only [dxB]) | (simp only [kI_d, kG_dt, kG_df]; split) | (simp only [kI_v, kG_vt, kG_vf]; split))
  · rw [if_neg h]
    cases n <;> (
      simp only [Bool.not_true, Bool.not_false] at h4
      repeat' (first | (simp (maxSteps := 1000000) only [seval, evB, exB, c_ref10_Minus, h1, h, h3, fd_3, h4]) | (simp (maxSteps := 1000000) (disch := first | with_reducible assumption | omega) only [dxB]) | (simp only [kI_d, kG_dt, kG_df]; split) | (simp only [kI_v, kG_vt, kG_vf]; split)))
theorem ref10_Canon (J : Al G T g) (F : Fm) {a b : Nat} (ha : a < 2 * F.sg) (hb : b < 2 * F.sg) : run G T 187 [.int .u8 F.u, zA a b] = some (zA (F.can a) (F.can b)) := by
  rw [run_k G T J.U.ref10_Canon]
  have h1 := ref03_Canon J F ha
  have h2 := ref03_Canon J F hb
  simp only [zA] at *
  repeat' (first | (simp (maxSteps := 1000000) only [seval, evB, exB, c_ref10_Canon, h1, h2]) | (simp (maxSteps := 1000000) (disch := first | with_reducible assumption | omega) only [dxB]) | (simp only [kI_d, kG_dt, kG_df]; split) | (simp only [kI_v, kG_vt, kG_vf]; split))
theorem ref10_Conj (J : Al G T g) (F : Fm) {a b : Nat} (ha : a < 2 * F.sg) (hb : b < 2 * F.sg) : run G T 172 [.int .u8 F.u, zA a b] = some (zA (F.can a) (F.min b)) := by
  rw [run_k G T J.U.ref10_Conj]
  have h1 := ref03_Canon J F ha
  have h2 := ref10_Minus J F hb
  simp only [zA] at *
  repeat' (first | (simp (maxSteps := 1000000) only [seval, evB, exB, c_ref10_Conj, h1, h2]) | (simp (maxSteps := 1000000) (disch := first | with_reducible assumption | omega) only [dxB]) | (simp only [kI_d, kG_dt, kG_df]; split) | (simp only [kI_v, kG_vt, kG_vf]; split))
theorem tn_loop (e : Env) (h : Heap) : evL G T c_ref10_Turn_l1 e h = kS G T (evL G T c_ref10_Turn_b1 (keepE [0, 4, 6, 7] e) h) c_ref10_Turn_l1 := s_loopc G T rfl e h
theorem ref10_Turn (J : Al G T g) (F : Fm) {a b : Nat} (ha : a < 2 * F.sg) (hb : b < 2 * F.sg) (n : Int) :
    ∃ x y, run G T 170 [.int .u8 F.u, zA a b, .int .i64 n] = some (zA x y) ∧ x < 2 * F.sg ∧ y < 2 * F.sg ∧ ((Sim F x a ∧ Sim F y b) ∨ (Sim F x b ∧ Sim F y a)) := by
  obtain ⟨a1, a2⟩ := can_sim ha
  obtain ⟨b1, b2⟩ := can_sim hb
  have c0 := ref10_Canon J F ha hb
  generalize F.can a = x0 at *
  generalize F.can b = y0 at *
  obtain ⟨p1, p2⟩ := min_sim b1
  obtain ⟨q1, q2⟩ := min_sim a1
  obtain ⟨r1, r2⟩ := min_sim p1
  have m1 := ref10_Minus J F b1
  have m2 := ref10_Minus J F a1
  have m3 := ref10_Minus J F p1
  have hr : -4 < n.tmod 4 ∧ n.tmod 4 < 4 := ⟨Int.lt_tmod_of_pos n (by decide), Int.tmod_lt_of_pos n (by decide)⟩
  obtain ⟨r, hre⟩ : ∃ r, n.tmod 4 = r := ⟨_, rfl⟩
  rw [hre] at hr
  have w1 : IntKind.i64.wrap (r + 4) = r + 4 := wrap_i64 (by omega)
  have w2 : ∃ k : Int, (r + 4).tmod 4 = k ∧ (k = 0 ∨ k = 1 ∨ k = 2 ∨ k = 3) := by
    have h1 : (r + 4).tmod 4 = (r + 4) % 4 := by rw [Int.tmod_eq_emod_of_nonneg (by omega)]
    exact ⟨_, rfl, by rw [h1]; omega⟩
  obtain ⟨k, w2, hk⟩ := w2
  have u1 : IntKind.i64.wrap (1 - 1) = 0 := rfl
  have u2 : IntKind.i64.wrap (2 - 1) = 1 := rfl
  have u3 : IntKind.i64.wrap (3 - 1) = 2 := rfl
  have u4 : IntKind.i64.wrap 0 = 0 := rfl
  have u5 : IntKind.i64.wrap 1 = 1 := rfl
  have u6 : IntKind.i64.wrap 2 = 2 := rfl
  rcases hk with rfl | rfl | rfl | rfl
  · refine ⟨x0, y0, ?_, a1, b1, Or.inl ⟨a2, b2⟩⟩
    rw [run_k G T J.U.ref10_Turn]
    simp only [zA] at *
    repeat' (first | (simp (maxSteps := 1000000) only [seval, evB, exB, c_ref10_Turn, c0, hre, w1, w2, tn_loop, c_ref10_Turn_b1, m1, m2, m3, u1, u2, u3, u4, u5, u6]) | (simp (maxSteps := 1000000) (disch := first | with_reducible assumption | omega) only [dxB]) | (simp only [kI_d, kG_dt, kG_df]; split) | (simp only [kI_v, kG_vt, kG_vf]; split))
  · refine ⟨F.min y0, x0, ?_, p1, a1, Or.inr ⟨p2.trans b2, a2⟩⟩
    rw [run_k G T J.U.ref10_Turn]
    simp only [zA] at *
    repeat' (first | (simp (maxSteps := 1000000) only [seval, evB, exB, c_ref10_Turn, c0, hre, w1, w2, tn_loop, c_ref10_Turn_b1, m1, m2, m3, u1, u2, u3, u4, u5, u6]) | (simp (maxSteps := 1000000) (disch := first | with_reducible assumption | omega) only [dxB]) | (simp only [kI_d, kG_dt, kG_df]; split) | (simp only [kI_v, kG_vt, kG_vf]; split))
  · refine ⟨F.min x0, F.min y0, ?_, q1, p1, Or.inl ⟨q2.trans a2, p2.trans b2⟩⟩
    rw [run_k G T J.U.ref10_Turn]
    simp only [zA] at *
    repeat' (first | (simp (maxSteps := 1000000) only [seval, evB, exB, c_ref10_Turn, c0, hre, w1, w2, tn_loop, c_ref10_Turn_b1, m1, m2, m3, u1, u2, u3, u4, u5, u6]) | (simp (maxSteps := 1000000) (disch := first | with_reducible assumption | omega) only [dxB]) | (simp only [kI_d, kG_dt, kG_df]; split) | (simp only [kI_v, kG_vt, kG_vf]; split))
  · refine ⟨F.min (F.min y0), F.min x0, ?_, r1, q1, Or.inr ⟨r2.trans (p2.trans b2), q2.trans a2⟩⟩
    rw [run_k G T J.U.ref10_Turn]
    simp only [zA] at *
    repeat' (first | (simp (maxSteps := 1000000) only [seval, evB, exB, c_ref10_Turn, c0, hre, w1, w2, tn_loop, c_ref10_Turn_b1, m1, m2, m3, u1, u2, u3, u4, u5, u6]) | (simp (maxSteps := 1000000) (disch := first | with_reducible assumption | omega) only [dxB]) | (simp only [kI_d, kG_dt, kG_df]; split) | (simp only [kI_v, kG_vt, kG_vf]; split))
theorem val_enc (F : Fm) (n : Bool) {k : Nat} {u : Int} (hk0 : k ≠ 0) (hk1 : k < 2 ^ (F.fr + 1)) (hu : F.low ≤ u) (hku : u = F.low ∨ 2 ^ F.fr ≤ k) (hs : F.enc k u < F.i0) : F.val (F.enc k u + F.sgn n) = mkD n k u := by
  have hi := fm_i0 F
  obtain ⟨e1, e2⟩ := sgn_mod n (by omega : F.enc k u < F.sg)
  have hp := Nat.two_pow_pos F.fr
  rw [Nat.pow_succ] at hk1
  unfold Fm.val Fm.ex Fm.fc
  rw [e1, e2]
  rcases Nat.lt_or_ge k (2 ^ F.fr) with h | h
  · have hul : u = F.low := by
      rcases hku with q | q
      · exact q
      · omega
    have hE : F.enc k u = k := by unfold Fm.enc; rw [hul, Int.sub_self]; simp
    rw [hE, Nat.div_eq_of_lt h, if_pos rfl, Nat.mod_eq_of_lt h, hul]
  · have hE : F.enc k u = (k - 2 ^ F.fr) + 2 ^ F.fr * ((u - F.low).toNat + 1) := by
      unfold Fm.enc; rw [Nat.mul_add, Nat.mul_one, Nat.mul_comm]; omega
    have hlt : k - 2 ^ F.fr < 2 ^ F.fr := by omega
    have hd : F.enc k u / 2 ^ F.fr = (u - F.low).toNat + 1 := by
      rw [hE, Nat.add_mul_div_left _ _ hp, Nat.div_eq_of_lt hlt, Nat.zero_add]
    have hm : F.enc k u % 2 ^ F.fr = k - 2 ^ F.fr := by
      rw [hE, Nat.add_mul_mod_self_left, Nat.mod_eq_of_lt hlt]
    rw [hd, hm, if_neg (by omega), show 2 ^ F.fr + (k - 2 ^ F.fr) = k by omega]
    congr 1
    omega
theorem fit_word (F : Fm) {d : Dy} (h : F.fits d) (ho : d.m % 2 = 1) : ∃ s, s ≠ 0 ∧ s < F.i0 ∧ F.val (s + F.sgn d.n) = d := by
  obtain ⟨h0, h1, h2, h3⟩ := h
  have hF := fm_facts F
  obtain ⟨u, hu⟩ : ∃ u : Int, u = max (d.e + blen d.m - F.fr - 1) F.low := ⟨_, rfl⟩
  have hbp := blen_pos h0
  have hbk := blen_mul h0 (d.e - u).toNat
  have hk0 : d.m * 2 ^ (d.e - u).toNat ≠ 0 := by intro hc; rw [hc, blen_zero] at hbk; omega
  have hk1 : d.m * 2 ^ (d.e - u).toNat < 2 ^ (F.fr + 1) := blen_le.1 (by omega)
  have hku : u = F.low ∨ 2 ^ F.fr ≤ d.m * 2 ^ (d.e - u).toNat := by
    by_cases q : u = F.low
    · exact Or.inl q
    · right; exact lt_blen.1 (by omega)
  have hbig := enc_big F (n := d.m * 2 ^ (d.e - u).toNat) (u := u) (by omega) (by omega) hku
  have hs : F.enc (d.m * 2 ^ (d.e - u).toNat) u < F.i0 := by
    rcases Nat.lt_or_ge (F.enc (d.m * 2 ^ (d.e - u).toNat) u) F.i0 with q | q
    · exact q
    · have := hbig.2 q; omega
  refine ⟨F.enc (d.m * 2 ^ (d.e - u).toNat) u, ?_, hs, ?_⟩
  · unfold Fm.enc; omega
  · rw [val_enc F d.n hk0 hk1 (by omega) hku hs]
    have := mkD_oddp (n := d.n) (e := d.e) ho (d.e - u).toNat
    rw [show d.e - ((d.e - u).toNat : Int) = u by omega] at this
    exact this
theorem fits_val (F : Fm) {w : Nat} (hf : F.fin w) (h0 : (F.val w).m ≠ 0) : F.fits (F.val w) := by
  have hF := fm_facts F
  have hwd : F.low + F.fr + F.most - 1 = F.wide := by cases F <;> decide
  have hy : F.fc w < 2 ^ F.fr := Nat.mod_lt _ (Nat.two_pow_pos _)
  unfold Fm.fin at hf
  unfold Fm.val at h0 ⊢
  by_cases hx : F.ex w = 0
  · rw [if_pos hx] at h0 ⊢
    have hk : F.fc w ≠ 0 := by intro hc; rw [hc] at h0; exact h0 rfl
    have hb := blen_le.2 hy
    exact mkD_fits hk (by rw [Nat.pow_succ]; omega) (Int.le_refl _) (by omega)
  · rw [if_neg hx] at h0 ⊢
    have hk : 2 ^ F.fr + F.fc w ≠ 0 := by have := Nat.two_pow_pos F.fr; omega
    have hb : blen (2 ^ F.fr + F.fc w) ≤ F.fr + 1 := blen_le.2 (by rw [Nat.pow_succ]; omega)
    exact mkD_fits hk (by rw [Nat.pow_succ]; omega) (by omega) (by omega)
theorem sterbenz (F : Fm) {x y : Dy} (fx : x.m ≠ 0 → F.fits x) (fy : y.m ≠ 0 → F.fits y) (hn : x.n = y.n) (h1 : cmpD (absD x) (shD (absD y) 1) ≤ 0) (h2 : cmpD (absD y) (shD (absD x) 1) ≤ 0) (h0 : (subD x y).m ≠ 0) : F.fits (subD x y) := by
  obtain ⟨L, hL⟩ : ∃ L : Int, L = min x.e y.e := ⟨_, rfl⟩
  have lx : LoE x L := Or.inr (by omega)
  have ly : LoE y L := Or.inr (by omega)
  have sh : ∀ (d : Dy) (h : LoE d L), iv (shD (absD d) 1) L = 2 * ((d.m * 2 ^ (d.e - L).toNat : Nat) : Int) ∧ LoE (shD (absD d) 1) L := fun d h => by
    unfold shD absD
    by_cases q : d.m = 0
    · simp only [q, if_true]; exact ⟨by simp [iv], Or.inl rfl⟩
    · simp only [q, if_false]
      have hl := h.resolve_left q
      refine ⟨?_, Or.inr (by simp only; omega)⟩
      unfold iv
      simp only [Bool.false_eq_true, if_false, Int.one_mul]
      rw [show (d.e + 1 - L).toNat = (d.e - L).toNat + 1 by omega, Nat.pow_succ, ← Nat.mul_assoc]; omega
  have la : ∀ (d : Dy) (h : LoE d L), LoE (absD d) L := fun d h => h
  rw [cmp_iv (la x lx) (sh y ly).2, iv_abs, (sh y ly).1] at h1
  rw [cmp_iv (la y ly) (sh x lx).2, iv_abs, (sh x lx).1] at h2
  have hs := iv_add lx (LoE_neg ly)
  rw [iv_neg] at hs
  rw [show addD x (negD y) = subD x y from rfl] at hs
  obtain ⟨hs1, hs2⟩ := hs
  have hle := hs2.resolve_left h0
  unfold iv at hs1
  rw [hn] at hs1
  generalize hD : (subD x y).m * 2 ^ ((subD x y).e - L).toNat = D at *
  generalize hX : x.m * 2 ^ (x.e - L).toNat = X at *
  generalize hY : y.m * 2 ^ (y.e - L).toNat = Y at *
  have g1 : (X : Int) ≤ 2 * Y := by
    unfold sgI at h1; split at h1
    · omega
    · split at h1 <;> omega
  have g2 : (Y : Int) ≤ 2 * X := by
    unfold sgI at h2; split at h2
    · omega
    · split at h2 <;> omega
  have dX : D ≤ X ∧ D ≤ Y := by
    generalize (subD x y).n = p at *
    generalize y.n = q at *
    cases p <;> cases q <;> simp only [Bool.false_eq_true, if_false, if_true] at hs1 <;> omega
  have Dp : 0 < D := by rw [← hD]; exact Nat.mul_pos (Nat.pos_of_ne_zero h0) (Nat.two_pow_pos _)
  have x0 : x.m ≠ 0 := by intro hc; rw [hc, Nat.zero_mul] at hX; omega
  have y0 : y.m ≠ 0 := by intro hc; rw [hc, Nat.zero_mul] at hY; omega
  obtain ⟨_, x1, x2, x3⟩ := fx x0
  obtain ⟨_, y1, y2, y3⟩ := fy y0
  have bD := blen_mul h0 ((subD x y).e - L).toNat
  have bX := blen_mul x0 (x.e - L).toNat
  have bY := blen_mul y0 (y.e - L).toNat
  rw [hD] at bD
  rw [hX] at bX
  rw [hY] at bY
  have m1 := blen_mono dX.1
  have m2 := blen_mono dX.2
  exact ⟨h0, by omega, by omega, by omega⟩
theorem subW_fin (F : Fm) (md : Int) {a b : Nat} (fa : F.fin a) (fb : F.fin b) :
    (F.cls a = 1 ∧ F.cls b = 1 ∧ subW F md a b = (F.sgn (F.ng a), 0)) ∨ subW F md a b = sumW F md (subD (F.vl a) (F.vl b)) := by
  have ra := fin_iff.1 fa
  have rb := fin_iff.1 fb
  unfold subW addP
  rw [if_neg (show ¬ (F.cls a = 5 ∨ F.cls b = 5) by omega), if_neg (show ¬ (F.cls a = 4 ∧ F.cls b = 4 ∧ F.ng a ≠ !F.ng b) from fun h => by have := h.1; omega), if_neg (show ¬ F.cls a = 4 by omega), if_neg (show ¬ F.cls b = 4 by omega)]
  by_cases h : F.cls a = 1 ∧ F.cls b = 1 ∧ F.ng a = !F.ng b
  · left; rw [if_pos h]; exact ⟨h.1, h.2.1, rfl⟩
  · right; rw [if_neg h]; rfl
theorem sum_fit (F : Fm) {md : Int} {d : Dy} (hz : Nz d) (hf : d.m ≠ 0 → F.fits d) : ∃ w : Nat, sumW F md d = (w, 0) ∧ w < 2 * F.sg ∧ F.fin w ∧ F.val w = d := by
  have hi := fm_i0 F
  unfold sumW
  by_cases h0 : d.m = 0
  · rw [if_pos h0]
    refine ⟨F.sgn (decide (md = 5)), rfl, ?_, ?_, ?_⟩
    · unfold Fm.sgn; split <;> omega
    · have := fin_size (F := F) (s := 0) (decide (md = 5)) hi.2.1
      rwa [Nat.zero_add] at this
    · have := val_zero F (decide (md = 5))
      rw [Nat.zero_add] at this
      rw [this, hz.1 h0]
  · rw [if_neg h0]
    obtain ⟨s, s0, s1, s2⟩ := fit_word F (hf h0) (hz.2 h0)
    have hr := (round_val F md d.n s1 s0).1
    rw [s2] at hr
    refine ⟨s + F.sgn d.n, hr, ?_, fin_size d.n s1, s2⟩
    unfold Fm.sgn; split <;> omega
theorem near (F : Fm) {md : Int} {a b : Nat} (ha : a < 2 * F.sg) (hb : b < 2 * F.sg) (fa : F.fin a) (fb : F.fin b) (hn : (F.vl a).n = (F.vl b).n) (h1 : cmpD (absD (F.vl a)) (shD (absD (F.vl b)) 1) ≤ 0) (h2 : cmpD (absD (F.vl b)) (shD (absD (F.vl a)) 1) ≤ 0) :
    ∃ w : Nat, subW F md a b = (w, 0) ∧ w < 2 * F.sg ∧ F.fin w ∧ F.val w = subD (F.vl a) (F.vl b) := by
  have hi := fm_i0 F
  rcases subW_fin F md fa fb with ⟨k1, k2, h⟩ | h
  · rw [h]
    refine ⟨F.sgn (F.ng a), rfl, ?_, ?_, ?_⟩
    · unfold Fm.sgn; split <;> omega
    · have := fin_size (F := F) (s := 0) (F.ng a) hi.2.1
      rwa [Nat.zero_add] at this
    · have := val_zero F (F.ng a)
      rw [Nat.zero_add] at this
      rw [this, vl_val fa, vl_val fb, (cls_zero_w ha k1).2, (cls_zero_w hb k2).2]; rfl
  · rw [h]
    refine sum_fit F (Nz_add (Nz_vl F a) (Nz_neg (Nz_vl F b))) (sterbenz F ?_ ?_ hn h1 h2)
    · intro q; rw [vl_val fa] at q ⊢; exact fits_val F fa q
    · intro q; rw [vl_val fb] at q ⊢; exact fits_val F fb q
def P2 (k : Nat) : Int := ((2 ^ k : Nat) : Int)
theorem P2_pos (k : Nat) : 0 < P2 k := by unfold P2; have := Nat.two_pow_pos k; omega
theorem P2_dvd {i k : Nat} (h : i ≤ k) : P2 i ∣ P2 k := by
  unfold P2; exact Int.natCast_dvd_natCast.2 (Nat.pow_dvd_pow 2 h)
def bl (n : Int) : Nat := blen n.natAbs
theorem bl_le {n : Int} {k : Nat} : bl n ≤ k ↔ (n < P2 k ∧ -n < P2 k) := by
  unfold bl P2; rw [blen_le]; omega
theorem bl_ge {n : Int} (h : n ≠ 0) : P2 (bl n - 1) ≤ n ∨ P2 (bl n - 1) ≤ -n := by
  unfold bl P2; have := pow_blen_le (n := n.natAbs) (by omega); omega
theorem bl_neg (n : Int) : bl (-n) = bl n := by unfold bl; rw [Int.natAbs_neg]
theorem dvd_small {k : Nat} {x : Int} (h : P2 k ∣ x) (h1 : x < P2 k) (h2 : -x < P2 k) : x = 0 := by
  obtain ⟨q, rfl⟩ := h
  have hp := P2_pos k
  rcases Int.lt_trichotomy q 0 with hq | hq | hq
  · have := Int.mul_le_mul_of_nonneg_left (show q ≤ -1 by omega) (Int.le_of_lt hp); omega
  · rw [hq, Int.mul_zero]
  · have := Int.mul_le_mul_of_nonneg_left (show 1 ≤ q by omega) (Int.le_of_lt hp); omega
def Rep (p : Nat) (n : Int) : Prop := P2 (bl n - p) ∣ n
def Rn (p : Nat) (n r : Int) : Prop := Rep p r ∧ P2 (bl n - p) ∣ r ∧ 2 * (r - n) ≤ P2 (bl n - p) ∧ 2 * (n - r) ≤ P2 (bl n - p)
theorem Rep.neg {p : Nat} {n : Int} (h : Rep p n) : Rep p (-n) := by
  unfold Rep at h ⊢; rw [bl_neg]; exact Int.dvd_neg.2 h
theorem Rn.neg {p : Nat} {n r : Int} (h : Rn p n r) : Rn p (-n) (-r) := by
  obtain ⟨h0, h1, h2, h3⟩ := h
  unfold Rn; rw [bl_neg]
  exact ⟨h0.neg, Int.dvd_neg.2 h1, by omega, by omega⟩
theorem Rn.exact {p : Nat} {n r : Int} (h : Rn p n r) {i : Nat} (hi : P2 i ∣ n) (hk : bl n - p ≤ i) : r = n := by
  obtain ⟨_, h1, h2, h3⟩ := h
  have hp := P2_pos (bl n - p)
  have := dvd_small (Int.dvd_sub h1 (Int.dvd_trans (P2_dvd hk) hi)) (by omega) (by omega)
  omega
theorem Rn.near {p : Nat} (hp : 1 ≤ p) {n r c : Int} (h : Rn p n r) (hc : Rep p c) : r - n ≤ (c - n).natAbs ∧ n - r ≤ (c - n).natAbs := by
  have key : ∀ c, P2 (bl n - p) ∣ c → r - n ≤ (c - n).natAbs ∧ n - r ≤ (c - n).natAbs := fun c hc => by
    obtain ⟨_, h1, h2, h3⟩ := h
    by_cases q : r = c
    · subst q; omega
    · have hd := Int.dvd_sub h1 hc
      have hs : ¬ (r - c < P2 (bl n - p) ∧ -(r - c) < P2 (bl n - p)) := fun q1 => q (by have := dvd_small hd q1.1 q1.2; omega)
      omega
  by_cases q : bl n - p ≤ bl c - p
  · exact key c (Int.dvd_trans (P2_dvd q) hc)
  · have hb : bl c ≤ bl n - 1 := by omega
    have hn0 : n ≠ 0 := by rintro rfl; have : bl 0 = 0 := rfl; omega
    have hc1 := bl_le.1 hb
    have hd : P2 (bl n - p) ∣ P2 (bl n - 1) := P2_dvd (by omega)
    have k1 := key _ hd
    have k2 := key _ (Int.dvd_neg.2 hd)
    have hpp := P2_pos (bl n - 1)
    rcases bl_ge hn0 with h4 | h4 <;> omega
def Fm.X (F : Fm) (w : Nat) : Int := iv (F.vl w) F.low
theorem LoE_vl {F : Fm} {w : Nat} (hf : F.fin w) : LoE (F.vl w) F.low := by
  by_cases h : (F.vl w).m = 0
  · exact Or.inl h
  · right; rw [vl_val hf] at h ⊢; exact (fits_val F hf h).2.2.1
theorem sgn_fin (F : Fm) (n : Bool) : F.sgn n < 2 * F.sg ∧ F.fin (F.sgn n) ∧ F.vl (F.sgn n) = ⟨false, 0, 0⟩ := by
  have hi := fm_i0 F
  have h := fin_size (F := F) (s := 0) n hi.2.1
  have h2 := val_zero F n
  rw [Nat.zero_add] at h h2
  exact ⟨by unfold Fm.sgn; split <;> omega, h, by rw [vl_val h, h2]⟩
theorem addP_fin (F : Fm) (md : Int) {c c' : Int} {n n' : Bool} {d d' : Dy} (h1 : c = 1 ∨ c = 2 ∨ c = 3) (h2 : c' = 1 ∨ c' = 2 ∨ c' = 3) :
    addP F md c n d c' n' d' = if c = 1 ∧ c' = 1 ∧ n = n' then (F.sgn n, 0) else sumW F md (addD d d') := by
  unfold addP
  rw [if_neg (by omega), if_neg (by omega), if_neg (by omega), if_neg (by omega)]
theorem cls_val1 {F : Fm} {w : Nat} (hw : w < 2 * F.sg) (hf : F.fin w) : F.cls w = 1 ↔ (F.vl w).m = 0 := by
  rw [vl_val hf]
  constructor
  · intro h; rw [(cls_zero_w hw h).2]
  · intro h
    have h1 := fun q => val_cls hw q hf
    exact Decidable.byContradiction fun q => h1 q h
theorem mulP_fin (F : Fm) (md : Int) {c c' : Int} {n n' : Bool} {d d' : Dy} (h1 : c = 1 ∨ c = 2 ∨ c = 3) (h2 : c' = 1 ∨ c' = 2 ∨ c' = 3) :
    mulP F md c n d c' n' d' = if c = 1 ∨ c' = 1 then (F.sgn (n != n'), 0) else sumW F md (mulD d d') := by
  unfold mulP
  rw [if_neg (by omega), if_neg (by omega), if_neg (by omega)]
theorem mulD_m {a b : Dy} (ha : Nz a) (hb : Nz b) (h1 : a.m ≠ 0) (h2 : b.m ≠ 0) : mulD a b = ⟨a.n != b.n, a.m * b.m, a.e + b.e⟩ := by
  unfold mulD; exact mkD_odd (odd_mul (ha.2 h1) (hb.2 h2))
theorem flip_fin {F : Fm} {w : Nat} (hw : w < 2 * F.sg) (hf : F.fin w) : F.fin (F.flip w) := by
  rw [fin_iff] at hf ⊢; rw [(flip_facts hw).2.2.1]; exact hf
theorem iv_mul {a b : Dy} {K L : Int} (ha : LoE a K) (hb : LoE b L) : iv (mulD a b) (K + L) = iv a K * iv b L ∧ LoE (mulD a b) (K + L) := by
  by_cases h1 : a.m = 0
  · have : mulD a b = ⟨false, 0, 0⟩ := mulD_z0 (Or.inl h1)
    rw [this, iv_zero rfl, iv_zero h1, Int.zero_mul]; exact ⟨rfl, Or.inl rfl⟩
  · by_cases h2 : b.m = 0
    · have : mulD a b = ⟨false, 0, 0⟩ := mulD_z0 (Or.inr h2)
      rw [this, iv_zero rfl, iv_zero h2, Int.mul_zero]; exact ⟨rfl, Or.inl rfl⟩
    · have la := ha.resolve_left h1
      have lb := hb.resolve_left h2
      refine ⟨?_, LoE_mk (by omega)⟩
      unfold mulD
      rw [iv_mk (by omega), show (a.e + b.e - (K + L)).toNat = (a.e - K).toNat + (b.e - L).toNat by omega, Nat.pow_add]
      unfold iv
      have e : a.m * b.m * (2 ^ (a.e - K).toNat * 2 ^ (b.e - L).toNat) = (a.m * 2 ^ (a.e - K).toNat) * (b.m * 2 ^ (b.e - L).toNat) := by
        simp only [Nat.mul_assoc, Nat.mul_left_comm, Nat.mul_comm]
      rw [e, Int.natCast_mul]
      generalize ((a.m * 2 ^ (a.e - K).toNat : Nat) : Int) = x
      generalize ((b.m * 2 ^ (b.e - L).toNat : Nat) : Int) = y
      cases a.n <;> cases b.n <;> simp [Int.neg_mul, Int.mul_neg]
theorem mulD_neg (a b : Dy) : mulD a (negD b) = negD (mulD a b) := by
  by_cases h1 : a.m = 0
  · rw [mulD_z0 (Or.inl h1), mulD_z0 (Or.inl h1)]; rfl
  · by_cases h2 : b.m = 0
    · rw [mulD_z0 (Or.inr h2), mulD_z0 (Or.inr (by unfold negD; rw [if_pos h2]; exact h2))]; rfl
    · have h3 : a.m * b.m ≠ 0 := by have := Nat.mul_pos (Nat.pos_of_ne_zero h1) (Nat.pos_of_ne_zero h2); omega
      have e1 : negD b = ⟨!b.n, b.m, b.e⟩ := by unfold negD; rw [if_neg h2]
      unfold mulD
      rw [e1]
      simp only
      have e2 := mkD_m0 (n := a.n != b.n) h3 (a.e + b.e)
      unfold negD
      rw [if_neg e2, mkD_pos h3, mkD_pos h3]
      cases a.n <;> cases b.n <;> rfl
theorem quo_core (F : Fm) {md : Int} {a b : Dy} (h0 : a.m ≠ 0) (h1 : b.m ≠ 0) (hf : (quoW F md a b).2 = 0 ∨ (quoW F md a b).2 = 16) :
    ∃ (K N kk : Nat) (u : Int), F.fin (quoW F md a b).1 ∧ (quoW F md a b).1 < 2 * F.sg ∧ F.val (quoW F md a b).1 = mkD (a.n != b.n) K u ∧ u + b.e = a.e - N + kk ∧ ((quoW F md a b).2 = 16 → u ≤ (a.e + blen a.m) - (b.e + blen b.m) + 1 - F.fr) ∧
      (a.m * 2 ^ N ≤ K * b.m * 2 ^ kk + b.m * 2 ^ kk) ∧ K * b.m * 2 ^ kk ≤ a.m * 2 ^ N + b.m * 2 ^ kk ∧ ((quoW F md a b).2 = 0 → a.m * 2 ^ N = K * b.m * 2 ^ kk) := by
  have hF := fm_facts F
  have hi := fm_i0 F
  have hqb := quo_blen (k := 64) h0 h1
  unfold quoW at hf ⊢
  obtain ⟨N, hN⟩ : ∃ N, N = quoN 64 a.m b.m := ⟨_, rfl⟩
  rw [← hN] at hf hqb ⊢
  have hdm := Nat.div_add_mod (a.m * 2 ^ N) b.m
  have hml := Nat.mod_lt (a.m * 2 ^ N) (Nat.pos_of_ne_zero h1)
  have hbA : blen (a.m * 2 ^ N) = blen a.m + N := blen_mul h0 N
  obtain ⟨A, hA⟩ : ∃ A, A = a.m * 2 ^ N := ⟨_, rfl⟩
  rw [← hA] at hdm hml hbA hqb hf ⊢
  obtain ⟨Q, hQ⟩ : ∃ Q, Q = A / b.m := ⟨_, rfl⟩
  rw [← hQ] at hdm hqb hf ⊢
  have hQb : blen Q + blen b.m ≤ blen A + 1 := by
    have q0 : Q ≠ 0 := by rintro rfl; rw [blen_zero] at hqb; omega
    have e1 := pow_blen_le q0
    have e2 := pow_blen_le h1
    have e3 := Nat.mul_le_mul e2 e1
    rw [← Nat.pow_add] at e3
    have e4 := lt_pow_blen A
    have e5 : blen b.m - 1 + (blen Q - 1) < blen A := by
      refine (Nat.pow_lt_pow_iff_right (a := 2) (by decide)).1 (Nat.lt_of_le_of_lt e3 (Nat.lt_of_le_of_lt ?_ e4))
      omega
    have := blen_pos h1
    omega
  obtain ⟨E, hE⟩ : ∃ E : Int, E = a.e - b.e - (N : Nat) := ⟨_, rfl⟩
  rw [← hE] at hf ⊢
  unfold sW at hf ⊢
  obtain ⟨u, hu⟩ : ∃ u, u = F.eOf (E + blen Q) := ⟨_, rfl⟩
  have hue : u = max (E + blen Q - F.fr - 1) F.low := hu
  rw [← hu] at hf ⊢
  obtain ⟨kk, hkk⟩ : ∃ kk, kk = (u - E).toNat := ⟨_, rfl⟩
  rw [← hkk] at hf ⊢
  have k0 : 0 < kk := by omega
  -- the count of units
  obtain ⟨lost, hlost⟩ : ∃ l, l = !decide (A % b.m = 0) := ⟨_, rfl⟩
  rw [← hlost] at hf ⊢
  obtain ⟨up, hup⟩ : ∃ up : Bool, (rdN md (a.n != b.n) Q lost kk).1 = Q / 2 ^ kk + up.toNat ∧ ((rdN md (a.n != b.n) Q lost kk).2 = true → up = false ∧ Q % 2 ^ kk = 0 ∧ A % b.m = 0) := by
    refine ⟨_, rfl, fun h => ?_⟩
    simp only [rdN, Bool.and_eq_true, Bool.not_eq_true'] at h
    obtain ⟨q1, _, _⟩ := half_spec Q k0
    rw [h.1, h.2]
    refine ⟨upB_ex _ _ _, ?_, ?_⟩
    · have h2 := h.2
      simp only [moreN, Bool.or_eq_false_iff, decide_eq_false_iff_not, ne_eq, Decidable.not_not] at h2
      rw [q1, h.1, h2.2]; rfl
    · have h2 := h.2
      simp only [moreN, Bool.or_eq_false_iff] at h2
      have h3 := h2.1
      rw [hlost] at h3
      simpa using h3
  have hbd : (rdN md (a.n != b.n) Q lost kk).1 ≤ 2 ^ (F.fr + 1) := by
    rw [hup.1]
    have hb1 : blen (Q / 2 ^ kk) ≤ F.fr + 1 := by rw [blen_div]; omega
    have := blen_le.1 hb1
    cases up <;> simp <;> omega
  have hlo2 : u = F.low ∨ 2 ^ F.fr ≤ (rdN md (a.n != b.n) Q lost kk).1 := by
    by_cases q : u = F.low
    · exact Or.inl q
    · right
      have : 2 ^ F.fr ≤ Q / 2 ^ kk := lt_blen.1 (by rw [blen_div]; omega)
      rw [hup.1]; omega
  have hfine : blen (rdN md (a.n != b.n) Q lost (blen Q - F.fr - 1)).1 ≤ F.fr + 2 := by
    have hb1 : blen (Q / 2 ^ (blen Q - F.fr - 1)) ≤ F.fr + 1 := by rw [blen_div]; omega
    have h2 := blen_le.1 hb1
    have hb : ∀ b : Bool, b.toNat ≤ 1 := fun b => by cases b <;> decide
    rw [blen_le, show F.fr + 2 = (F.fr + 1) + 1 by omega, Nat.pow_succ]
    simp only [rdN]
    have := hb (upB md (a.n != b.n) (decide (Q / 2 ^ (blen Q - F.fr - 1) % 2 = 1)) (halfN Q (blen Q - F.fr - 1)) (moreN Q lost (blen Q - F.fr - 1)))
    have h3 := Nat.two_pow_pos (F.fr + 1)
    omega
  generalize hK : (rdN md (a.n != b.n) Q lost kk).1 = K at *
  generalize (rdN md (a.n != b.n) Q lost (blen Q - F.fr - 1)).1 = fine at *
  generalize (rdN md (a.n != b.n) Q lost kk).2 = ex at *
  unfold wordOf at hf ⊢
  have hbig := enc_big F (n := K) (u := u) hbd (by omega) hlo2
  by_cases ov : F.wide < blen K + u
  · rw [if_pos ov] at hf; simp only at hf; omega
  · rw [if_neg ov] at hf ⊢
    have hs : F.enc K u < F.i0 := by
      rcases Nat.lt_or_ge (F.enc K u) F.i0 with q | q
      · exact q
      · exact absurd (hbig.2 q) ov
    obtain ⟨v1, v2, v3⟩ := iv_val (F := F) (a.n != b.n) hs
    rw [magN_enc F hbd (by omega) hlo2] at v1
    have hval : F.val (F.enc K u + F.sgn (a.n != b.n)) = mkD (a.n != b.n) K u := nz_eq v3 (Nz_mk _ _ _) v2 (LoE_mk (by omega)) (by rw [v1, iv_mk (by omega)])
    -- S
    have hS1 : Q * b.m = Q / 2 ^ kk * b.m * 2 ^ kk + Q % 2 ^ kk * b.m := by
      have e := Nat.div_add_mod Q (2 ^ kk)
      conv => lhs; rw [← e]
      rw [Nat.add_mul]
      congr 1
      rw [Nat.mul_assoc, Nat.mul_comm]
    have hS2 : Q % 2 ^ kk * b.m + A % b.m < b.m * 2 ^ kk := by
      have e := Nat.mod_lt Q (Nat.two_pow_pos kk)
      have := Nat.mul_le_mul_left b.m (show Q % 2 ^ kk + 1 ≤ 2 ^ kk from e)
      rw [Nat.mul_add, Nat.mul_one, Nat.mul_comm b.m (Q % 2 ^ kk)] at this
      omega
    have hdm' : Q * b.m + A % b.m = A := by rw [Nat.mul_comm]; exact hdm
    have hKb : K * b.m * 2 ^ kk = Q / 2 ^ kk * b.m * 2 ^ kk + up.toNat * (b.m * 2 ^ kk) := by rw [hup.1, Nat.add_mul, Nat.add_mul, Nat.mul_assoc up.toNat]
    refine ⟨K, N, kk, u, fin_size _ hs, by unfold Fm.sgn; split <;> omega, hval, by omega, ?_, ?_, ?_, ?_⟩
    · intro hf
      simp only at hf
      have : ¬ ((blen fine : Int) + (E + blen Q - F.fr - 1) < F.low + F.fr + 1) := by
        intro q; rw [if_pos q] at hf; split at hf <;> omega
      omega
    · rw [← hA, hKb]
      generalize Q / 2 ^ kk * b.m * 2 ^ kk = X at *
      generalize b.m * 2 ^ kk = Y at *
      cases up <;> simp <;> omega
    · rw [← hA, hKb]
      generalize Q / 2 ^ kk * b.m * 2 ^ kk = X at *
      generalize b.m * 2 ^ kk = Y at *
      cases up <;> simp <;> omega
    · intro h
      have hx : ex = true := by
        cases ex
        · simp only [Bool.false_eq_true, if_false] at h; split at h <;> simp at h
        · rfl
      obtain ⟨x1, x2, x3⟩ := hup.2 hx
      rw [← hA, hKb, x1, ← hdm', x3, hS1, x2]; simp
theorem units {K kk : Nat} {u E low L : Int} (h1 : u = E + kk) (h2 : L ≤ E) (h3 : low ≤ u) (h4 : L ≤ low) : K * 2 ^ (u - low).toNat * 2 ^ (low - L).toNat = K * 2 ^ kk * 2 ^ (E - L).toNat := by
  rw [Nat.mul_assoc, ← Nat.pow_add, Nat.mul_assoc, ← Nat.pow_add]; congr 2; omega
theorem sq_nn (x : Int) : 0 ≤ x * x := by
  rcases Int.le_total 0 x with h | h
  · exact Int.mul_nonneg h h
  · have := Int.mul_nonneg (Int.neg_nonneg.2 h) (Int.neg_nonneg.2 h)
    rwa [Int.neg_mul_neg] at this
theorem upB_ovs {F : Fm} {md : Int} {neg o h m : Bool} (hm : 1 ≤ md ∧ md ≤ 5) (hu : upB md neg o h m = true) : ovs F md neg = F.i0 := by
  unfold ovs
  rw [if_neg]
  rintro (r | ⟨r, n⟩ | ⟨r, n⟩) <;> subst r <;> simp [upB] at hu
  · rw [n] at hu; simp at hu
  · rw [n] at hu; simp at hu
theorem sW_size (F : Fm) (neg : Bool) {Q : Nat} (more : Bool) (E : Int) (hQ : F.fr + 2 ≤ blen Q) : ∃ (s0 : Nat) (o h m : Bool), ∀ md, 1 ≤ md ∧ md ≤ 5 →
    (sW F md neg Q more E).1 = (if s0 < F.i0 then s0 + (upB md neg o h m).toNat else ovs F md neg) + F.sgn neg := by
  obtain ⟨u, hu⟩ : ∃ u, u = F.eOf (E + blen Q) := ⟨_, rfl⟩
  have hue : u = max (E + blen Q - F.fr - 1) F.low := hu
  obtain ⟨k, hk⟩ : ∃ k, k = (u - E).toNat := ⟨_, rfl⟩
  have k0 : 0 < k := by omega
  have hb1 : blen (Q / 2 ^ k) ≤ F.fr + 1 := by rw [blen_div]; omega
  have hb2 := blen_le.1 hb1
  refine ⟨F.enc (Q / 2 ^ k) u, decide (Q / 2 ^ k % 2 = 1), halfN Q k, moreN Q more k, fun md hm => ?_⟩
  unfold sW
  rw [← hu, ← hk]
  have hn : (rdN md neg Q more k).1 = Q / 2 ^ k + (upB md neg (decide (Q / 2 ^ k % 2 = 1)) (halfN Q k) (moreN Q more k)).toNat := rfl
  generalize (rdN md neg Q more (blen Q - F.fr - 1)).1 = fine
  generalize (rdN md neg Q more k).2 = ex
  rw [hn]
  obtain ⟨n0, hn0⟩ : ∃ n0, n0 = Q / 2 ^ k := ⟨_, rfl⟩
  rw [← hn0] at hb1 hb2 ⊢
  have hlo : u = F.low ∨ 2 ^ F.fr ≤ n0 := by
    by_cases q : u = F.low
    · exact Or.inl q
    · right; rw [hn0]; exact lt_blen.1 (by rw [blen_div]; omega)
  generalize hU : upB md neg (decide (n0 % 2 = 1)) (halfN Q k) (moreN Q more k) = U
  have hUn : U.toNat ≤ 1 := by cases U <;> decide
  have hb := enc_big F (n := n0 + U.toNat) (u := u) (by omega) (by omega) (by omega)
  have he : F.enc (n0 + U.toNat) u = F.enc n0 u + U.toNat := by cases U <;> rfl
  rw [he] at hb
  unfold wordOf
  by_cases hs : F.enc n0 u < F.i0
  · rw [if_pos hs]
    by_cases hw : F.wide < blen (n0 + U.toNat) + u
    · rw [if_pos hw, ovr_eq]
      have h1 := hb.1 hw
      have hUt : U = true := by cases U with | true => rfl | false => exfalso; simp at h1; omega
      subst hUt
      rw [upB_ovs hm hU]
      simp at h1 ⊢
      omega
    · rw [if_neg hw, he]
  · rw [if_neg hs, if_pos (hb.2 (by omega)), ovr_eq]
def plz (F : Fm) (neg : Bool) (s : Nat) : Int := if neg then -(s : Int) else s
theorem sz_between (F : Fm) {md : Int} (hm : 1 ≤ md ∧ md ≤ 5) (neg o h m : Bool) (s0 : Nat) :
    let z := fun md => (if s0 < F.i0 then s0 + (upB md neg o h m).toNat else ovs F md neg)
    plz F neg (z 5) ≤ plz F neg (z md) ∧ plz F neg (z md) ≤ plz F neg (z 4) ∧ plz F neg (z 4) ≤ plz F neg (z 5) + 1 ∧ z md ≤ F.i0 := by
  have hi := fm_i0 F
  have hmd : md = 1 ∨ md = 2 ∨ md = 3 ∨ md = 4 ∨ md = 5 := by omega
  simp only
  by_cases hs : s0 < F.i0
  · simp only [if_pos hs]
    rcases hmd with r | r | r | r | r <;> subst r <;> cases neg <;> cases o <;> cases h <;> cases m <;> simp [upB, plz] <;> omega
  · simp only [if_neg hs]
    rcases hmd with r | r | r | r | r <;> subst r <;> cases neg <;> simp [ovs, plz] <;> omega
theorem quo_size (F : Fm) {a b : Dy} (h0 : a.m ≠ 0) (h1 : b.m ≠ 0) : ∃ (s0 : Nat) (o h m : Bool), ∀ md, 1 ≤ md ∧ md ≤ 5 →
    (quoW F md a b).1 = (if s0 < F.i0 then s0 + (upB md (a.n != b.n) o h m).toNat else ovs F md (a.n != b.n)) + F.sgn (a.n != b.n) := by
  have hF := fm_facts F
  have hqb := quo_blen (k := 64) h0 h1
  exact sW_size F (a.n != b.n) _ _ (by omega)
theorem pl_size (F : Fm) (neg : Bool) {s : Nat} (h : s ≤ F.i0) : (if F.ng (s + F.sgn neg) then -(((s + F.sgn neg) % F.sg : Nat) : Int) else (((s + F.sgn neg) % F.sg : Nat) : Int)) = plz F neg s ∧ s + F.sgn neg < 2 * F.sg ∧ F.cls (s + F.sgn neg) ≠ 5 := by
  have hi := fm_i0 F
  obtain ⟨q1, q2⟩ := sgn_mod (F := F) (s := s) neg (by omega)
  refine ⟨?_, ?_, (cls_size neg h).2.2⟩
  · rw [q1, q2]; unfold plz; cases neg <;> rfl
  · unfold Fm.sgn; split <;> omega
theorem iv_sq (F : Fm) {a b : Nat} {L : Int} (la : LoE (F.vl a) L) (lb : LoE (F.vl b) L) : iv (sqD F a b) (2 * L) = iv (F.vl a) L * iv (F.vl a) L + iv (F.vl b) L * iv (F.vl b) L := by
  obtain ⟨p1, p2⟩ := iv_mul la la
  obtain ⟨q1, q2⟩ := iv_mul lb lb
  unfold sqD
  rw [show 2 * L = L + L by omega, (iv_add p2 q2).1, p1, q1]
theorem ref10_Finite (J : Al G T g) (F : Fm) {a b : Nat} (ha : a < 2 * F.sg) (hb : b < 2 * F.sg) : run G T 250 [.int .u8 F.u, zA a b] = some (.bool (decide (F.fin a ∧ F.fin b))) := by
  rw [run_k G T J.J.ref10_Finite]
  have f1 := ref03_Finite J F (sg_64 ha)
  have f2 := ref03_Finite J F (sg_64 hb)
  simp only [zA]
  by_cases p : F.fin a
  · rw [decide_eq_true p] at f1
    by_cases q : F.fin b
    · rw [decide_eq_true q] at f2
      rw [decide_eq_true (show F.fin a ∧ F.fin b from ⟨p, q⟩)]
      repeat' (first | (simp (maxSteps := 1000000) only [seval, evB, exB, c_ref10_Finite, f1, f2]) | (simp (maxSteps := 1000000) (disch := first | with_reducible assumption | omega) only [dxB]) | (simp only [kI_d, kG_dt, kG_df]; split) | (simp only [kI_v, kG_vt, kG_vf]; split))
    · rw [decide_eq_false q] at f2
      rw [decide_eq_false (show ¬ (F.fin a ∧ F.fin b) from fun h => q h.2)]
      repeat' (first | (simp (maxSteps := 1000000) only [seval, evB, exB, c_ref10_Finite, f1, f2]) | (simp (maxSteps := 1000000) (disch := first | with_reducible assumption | omega) only [dxB]) | (simp only [kI_d, kG_dt, kG_df]; split) | (simp only [kI_v, kG_vt, kG_vf]; split))
  · rw [decide_eq_false p] at f1
    rw [decide_eq_false (show ¬ (F.fin a ∧ F.fin b) from fun h => p h.1)]
    repeat' (first | (simp (maxSteps := 1000000) only [seval, evB, exB, c_ref10_Finite, f1]) | (simp (maxSteps := 1000000) (disch := first | with_reducible assumption | omega) only [dxB]) | (simp only [kI_d, kG_dt, kG_df]; split) | (simp only [kI_v, kG_vt, kG_vf]; split))
def zrA (p q : Nat × Nat) : AV := .agg [.int .u64 (p.1 : Int), .int .u64 (q.1 : Int), .int .u8 (p.2 : Int), .int .u8 (q.2 : Int)]
def numA (z : Bool) (x : Dy × Bool) : AV := .agg [.bool x.1.n, D z (dl x.1.m), .int .i64 x.1.e, .bool x.2]
def tm (F : Fm) (a b : Nat) (minus : Bool) : Dy × Bool := (if minus then negD (mulD (F.vl a) (F.vl b)) else mulD (F.vl a) (F.vl b), (F.ng a != F.ng b) != minus)
def zsg (md : Int) (x y : Dy × Bool) : Bool := if x.1.m = 0 ∧ y.1.m = 0 ∧ x.2 = y.2 then x.2 else decide (md = 5)
def ptQ (F : Fm) (md : Int) (d : Dy) (n : Bool) (by' : Dy) : Nat × Nat := if d.m = 0 then (F.sgn n, 0) else quoW F md d by'
theorem Bd_prod (F : Fm) (a b : Nat) : Bd (mulD (F.vl a) (F.vl b)) 2400 := by
  have hF := fm_facts F
  by_cases h1 : (F.vl a).m = 0
  · rw [mulD_z0 (Or.inl h1)]; exact ⟨by simp only [blen_zero]; omega, by simp, by simp⟩
  · by_cases h2 : (F.vl b).m = 0
    · rw [mulD_z0 (Or.inr h2)]; exact ⟨by simp only [blen_zero]; omega, by simp, by simp⟩
    · have fa : F.fin a := by
        by_cases h : F.fin a
        · exact h
        · exfalso; apply h1; unfold Fm.vl; rw [if_neg h]
      have fb : F.fin b := by
        by_cases h : F.fin b
        · exact h
        · exfalso; apply h2; unfold Fm.vl; rw [if_neg h]
      have e1 := fits_val F fa (by rw [← vl_val fa]; exact h1)
      have e2 := fits_val F fb (by rw [← vl_val fb]; exact h2)
      rw [← vl_val fa] at e1
      rw [← vl_val fb] at e2
      obtain ⟨_, a1, a2, a3⟩ := e1
      obtain ⟨_, b1, b2, b3⟩ := e2
      have hb := blen_mulT a1 b1
      rw [mulD_m (Nz_vl F a) (Nz_vl F b) h1 h2]
      exact ⟨by simp only; omega, by simp only; omega, by simp only; omega⟩
theorem Bd_tm (F : Fm) (a b : Nat) (s : Bool) : Bd (tm F a b s).1 2400 ∧ Nz (tm F a b s).1 := by
  unfold tm; cases s
  · exact ⟨Bd_prod F a b, Nz_mul _ _⟩
  · exact ⟨(Bd_prod F a b).neg, Nz_neg (Nz_mul _ _)⟩
theorem exact_numOf (J : Al G T g) (F : Fm) {w : Nat} (hw : w < 2 * F.sg) :
    ∃ z, run G T 296 [.int .u8 F.u, .int .u64 (w : Int)] = some (numA z (F.vl w, F.ng w)) := by
  apply exP
  rw [run_k G T J.J.exact_numOf]
  obtain ⟨z, k, h1⟩ := word_Value J F hw
  have h2 := word_Split J F hw
  generalize F.vl w = v at *
  generalize F.ng w = n at *
  simp only [fldA, DyA, A3, numA] at *
  repeat' (first | (simp (maxSteps := 1000000) only [seval, evB, exB, c_exact_numOf, h1, h2]) | (simp (maxSteps := 1000000) (disch := first | with_reducible assumption | omega) only [dxB]) | (simp only [kI_d, kG_dt, kG_df]; split) | (simp only [kI_v, kG_vt, kG_vf]; split))
  all_goals exact ⟨_, rfl, z, rfl⟩
theorem exact_num_times (J : Al G T g) {z y n k : Bool} {a b : Dy} (na : Nz a) (nb : Nz b) (ha : Bd a 16384) (hb : Bd b 16384) :
    ∃ z', run G T 278 [numA z (a, n), numA y (b, k)] = some (numA z' (mulD a b, n != k)) := by
  apply exP
  rw [run_k G T J.J.exact_num_times]
  obtain ⟨z', h1⟩ := dyad_Mul J (z := z) (y := y) ha hb (mayD_nzb na (ha.mono (by decide))) (mayD_nzb nb (hb.mono (by decide)))
  generalize mulD a b = d at *
  have hne : (n != k) = !decide (n = k) := by cases n <;> cases k <;> rfl
  rw [hne]
  simp only [DyA, A3, numA] at *
  repeat' (first | (simp (maxSteps := 1000000) only [seval, evB, exB, c_exact_num_times, h1]) | (simp (maxSteps := 1000000) (disch := first | with_reducible assumption | omega) only [dxB]) | (simp only [kI_d, kG_dt, kG_df]; split) | (simp only [kI_v, kG_vt, kG_vf]; split))
  all_goals exact ⟨_, rfl, z', rfl⟩
theorem exact_num_minus (J : Al G T g) {z n : Bool} {a : Dy} (na : Nz a) (ha : Bd a 131072) :
    ∃ z', run G T 279 [numA z (a, n)] = some (numA z' (negD a, !n)) := by
  apply exP
  rw [run_k G T J.J.exact_num_minus]
  obtain ⟨z', h1⟩ := dyad_Neg J (z := z) (d := a) (mayD_nzb na ha)
  generalize negD a = d at *
  simp only [DyA, A3, numA] at *
  repeat' (first | (simp (maxSteps := 1000000) only [seval, evB, exB, c_exact_num_minus, h1]) | (simp (maxSteps := 1000000) (disch := first | with_reducible assumption | omega) only [dxB]) | (simp only [kI_d, kG_dt, kG_df]; split) | (simp only [kI_v, kG_vt, kG_vf]; split))
  all_goals exact ⟨_, rfl, z', rfl⟩
theorem exact_num_plus (J : Al G T g) {z y n k : Bool} {a b : Dy} {md : Int} (na : Nz a) (nb : Nz b) (ha : Bd a 16384) (hb : Bd b 16384) :
    ∃ z' s, run G T 295 [numA z (a, n), numA y (b, k), .int .u8 md] = some (numA z' (addD a b, s)) ∧ ((addD a b).m = 0 → s = zsg md (a, n) (b, k)) := by
  rw [run_k G T J.J.exact_num_plus]
  obtain ⟨z', h1⟩ := dyad_Add J (z := z) (y := y) ha hb (mayD_nzb na (ha.mono (by decide))) (mayD_nzb nb (hb.mono (by decide)))
  have md' := mayD_nzb (Nz_add na nb) ((Bd_add ha hb).mono (by decide))
  have ma' := mayD_nzb na (ha.mono (by decide))
  have s1 := dyad_Sign J (n := (addD a b).n) (z := z') (Dg_dl (addD a b).m) (e := (addD a b).e)
  rw [sign_may md'] at s1
  have s2 := dyad_Sign J (n := a.n) (z := z) (Dg_dl a.m) (e := a.e)
  rw [sign_may ma'] at s2
  have hz : (addD a b).m = 0 → a.m = 0 → b.m = 0 := by intro h ha0; unfold addD at h; rw [if_pos ha0] at h; exact h
  unfold zsg
  generalize addD a b = d at *
  clear md' ma' na nb ha hb
  obtain ⟨an, am, ae⟩ := a
  obtain ⟨dn, dm, de⟩ := d
  simp only [DyA, A3, numA] at *
  by_cases d0 : dm = 0
  · rw [if_pos d0] at s1
    by_cases a0 : am = 0
    · rw [if_pos a0] at s2
      have b0 := hz d0 a0
      by_cases e : n = k
      · refine ⟨z', n, ?_, fun _ => by rw [if_pos ⟨a0, b0, e⟩]⟩
        subst e
        repeat' (first | (simp (maxSteps := 1000000) only [seval, evB, exB, c_exact_num_plus, h1, s1, s2]) | (simp (maxSteps := 1000000) (disch := first | with_reducible assumption | omega) only [dxB]) | (simp only [kI_d, kG_dt, kG_df]; split) | (simp only [kI_v, kG_vt, kG_vf]; split))
      · refine ⟨z', decide (md = 5), ?_, fun _ => by rw [if_neg (fun h => e h.2.2)]⟩
        repeat' (first | (simp (maxSteps := 1000000) only [seval, evB, exB, c_exact_num_plus, h1, s1, s2, e]) | (simp (maxSteps := 1000000) (disch := first | with_reducible assumption | omega) only [dxB]) | (simp only [kI_d, kG_dt, kG_df]; split) | (simp only [kI_v, kG_vt, kG_vf]; split))
    · rw [if_neg a0] at s2
      refine ⟨z', decide (md = 5), ?_, fun _ => by rw [if_neg (fun h => a0 h.1)]⟩
      cases an <;> (simp only [Bool.false_eq_true, if_false, if_true] at s2; repeat' (first | (simp (maxSteps := 1000000) only [seval, evB, exB, c_exact_num_plus, h1, s1, s2]) | (simp (maxSteps := 1000000) (disch := first | with_reducible assumption | omega) only [dxB]) | (simp only [kI_d, kG_dt, kG_df]; split) | (simp only [kI_v, kG_vt, kG_vf]; split)))
  · rw [if_neg d0] at s1
    refine ⟨z', dn, ?_, fun h => absurd h d0⟩
    cases dn <;> (simp only [Bool.false_eq_true, if_false, if_true] at s1; repeat' (first | (simp (maxSteps := 1000000) only [seval, evB, exB, c_exact_num_plus, h1, s1]) | (simp (maxSteps := 1000000) (disch := first | with_reducible assumption | omega) only [dxB]) | (simp only [kI_d, kG_dt, kG_df]; split) | (simp only [kI_v, kG_vt, kG_vf]; split)))
def gaussA (z y : Bool) (p q : Dy × Bool) : AV := .agg [.bool p.1.n, D z (dl p.1.m), .int .i64 p.1.e, .bool p.2, .bool q.1.n, D y (dl q.1.m), .int .i64 q.1.e, .bool q.2]
def workA (F : Fm) (md : Int) : AV := .agg [.int .u8 F.u, .int .u8 md]
def oneD : Dy := ⟨false, 1, 0⟩
theorem exact_gaussOf (J : Al G T g) (F : Fm) {a b : Nat} (ha : a < 2 * F.sg) (hb : b < 2 * F.sg) :
    ∃ z y, run G T 271 [.int .u8 F.u, zA a b] = some (gaussA z y (F.vl a, F.ng a) (F.vl b, F.ng b)) := by
  rw [run_k G T J.J.exact_gaussOf]
  obtain ⟨z, h1⟩ := exact_numOf J F ha
  obtain ⟨y, h2⟩ := exact_numOf J F hb
  refine ⟨z, y, ?_⟩
  generalize F.vl a = v at *
  generalize F.ng a = n at *
  generalize F.vl b = w at *
  generalize F.ng b = k at *
  simp only [zA, gaussA, numA] at *
  repeat' (first | (simp (maxSteps := 1000000) only [seval, evB, exB, c_exact_gaussOf, h1, h2]) | (simp (maxSteps := 1000000) (disch := first | with_reducible assumption | omega) only [dxB]) | (simp only [kI_d, kG_dt, kG_df]; split) | (simp only [kI_v, kG_vt, kG_vf]; split))
theorem exact_work_times (J : Al G T g) (F : Fm) {md : Int} {z1 z2 y1 y2 n1 n2 k1 k2 : Bool} {a b c d : Dy} (na : Nz a) (nb : Nz b) (nc : Nz c) (nd : Nz d) (ha : Bd a 4096) (hb : Bd b 4096) (hc : Bd c 4096) (hd : Bd d 4096) :
    ∃ z y s t, run G T 270 [workA F md, gaussA z1 z2 (a, n1) (b, n2), gaussA y1 y2 (c, k1) (d, k2)] = some (gaussA z y (addD (mulD a c) (negD (mulD b d)), s) (addD (mulD a d) (mulD b c), t)) ∧
      ((addD (mulD a c) (negD (mulD b d))).m = 0 → s = zsg md (mulD a c, n1 != k1) (negD (mulD b d), !(n2 != k2))) ∧ ((addD (mulD a d) (mulD b c)).m = 0 → t = zsg md (mulD a d, n1 != k2) (mulD b c, n2 != k1)) := by
  rw [run_k G T J.J.exact_work_times]
  obtain ⟨u1, h1⟩ := exact_num_times J (z := z1) (y := y1) (n := n1) (k := k1) na nc (ha.mono (by decide)) (hc.mono (by decide))
  obtain ⟨u2, h2⟩ := exact_num_times J (z := z2) (y := y2) (n := n2) (k := k2) nb nd (hb.mono (by decide)) (hd.mono (by decide))
  obtain ⟨u3, h3⟩ := exact_num_minus J (z := u2) (n := n2 != k2) (Nz_mul b d) ((Bd_mul hb hd).mono (by decide))
  obtain ⟨u4, s, h4, e4⟩ := exact_num_plus J (z := u1) (y := u3) (n := n1 != k1) (k := !(n2 != k2)) (md := md) (Nz_mul a c) (Nz_neg (Nz_mul b d)) (Bd_mul ha hc) (Bd_mul hb hd).neg
  obtain ⟨u5, h5⟩ := exact_num_times J (z := z1) (y := y2) (n := n1) (k := k2) na nd (ha.mono (by decide)) (hd.mono (by decide))
  obtain ⟨u6, h6⟩ := exact_num_times J (z := z2) (y := y1) (n := n2) (k := k1) nb nc (hb.mono (by decide)) (hc.mono (by decide))
  obtain ⟨u7, t, h7, e7⟩ := exact_num_plus J (z := u5) (y := u6) (n := n1 != k2) (k := n2 != k1) (md := md) (Nz_mul a d) (Nz_mul b c) (Bd_mul ha hd) (Bd_mul hb hc)
  refine ⟨u4, u7, s, t, ?_, e4, e7⟩
  clear e4 e7 ha hb hc hd na nb nc nd
  generalize addD (mulD a c) (negD (mulD b d)) = X at *
  generalize addD (mulD a d) (mulD b c) = Y at *
  generalize negD (mulD b d) = e at *
  generalize mulD a c = m1 at *
  generalize mulD b d = m2 at *
  generalize mulD a d = m3 at *
  generalize mulD b c = m4 at *
  generalize (!(n2 != k2)) = q0 at *
  generalize (n1 != k1) = q1 at *
  generalize (n2 != k2) = q2 at *
  generalize (n1 != k2) = q3 at *
  generalize (n2 != k1) = q4 at *
  simp only [gaussA, workA, numA] at *
  repeat' (first | (simp (maxSteps := 1000000) only [seval, evB, exB, c_exact_work_times, h1, h2, h3, h4, h5, h6, h7]) | (simp (maxSteps := 1000000) (disch := first | with_reducible assumption | omega) only [dxB]) | (simp only [kI_d, kG_dt, kG_df]; split) | (simp only [kI_v, kG_vt, kG_vf]; split))
theorem exact_work_part (J : Al G T g) (F : Fm) {md : Int} (hm : 1 ≤ md ∧ md ≤ 5) {z y s : Bool} {d b : Dy} (nd : Nz d) (nb : Nz b) (hd : Bd d 65537) (hb : Bd b 65537) (b0 : b.m ≠ 0) :
    run G T 294 [workA F md, numA z (d, s), DyA y b] = some (.tup [.int .u64 ((ptQ F md d s b).1 : Int), .int .u8 ((ptQ F md d s b).2 : Int)]) := by
  rw [run_k G T J.J.exact_work_part]
  have ma := mayD_nzb nd (hd.mono (by decide))
  have s1 := dyad_Sign J (n := d.n) (z := z) (Dg_dl d.m) (e := d.e)
  rw [sign_may ma] at s1
  unfold ptQ
  by_cases d0 : d.m = 0
  · rw [if_pos d0] at s1 ⊢
    have w1 := word_Zero J F (n := s)
    generalize F.sgn s = S at *
    simp only [workA, numA, DyA, A3, cast0] at *
    repeat' (first | (simp (maxSteps := 1000000) only [seval, evB, exB, c_exact_work_part, s1, w1]) | (simp (maxSteps := 1000000) (disch := first | with_reducible assumption | omega) only [dxB]) | (simp only [kI_d, kG_dt, kG_df]; split) | (simp only [kI_v, kG_vt, kG_vf]; split))
  · rw [if_neg d0] at s1 ⊢
    have hbl := hd.bl
    have hbb := hb.bl
    have r1 := round_Quo J F hm (z := z) (y := y) ma (mayD_nzb nb (hb.mono (by decide))) d0 b0 (by unfold quoN; omega)
    generalize quoW F md d b = S at *
    obtain ⟨n, m, e⟩ := d
    simp only [workA, numA, DyA, A3] at *
    cases n <;> (simp only [Bool.false_eq_true, if_false, if_true] at s1; repeat' (first | (simp (maxSteps := 1000000) only [seval, evB, exB, c_exact_work_part, s1, r1]) | (simp (maxSteps := 1000000) (disch := first | with_reducible assumption | omega) only [dxB]) | (simp only [kI_d, kG_dt, kG_df]; split) | (simp only [kI_v, kG_vt, kG_vf]; split)))
theorem exact_work_both (J : Al G T g) (F : Fm) {md : Int} (hm : 1 ≤ md ∧ md ≤ 5) {z z' y s t : Bool} {d e b : Dy} (nd : Nz d) (ne : Nz e) (nb : Nz b) (hd : Bd d 65537) (he : Bd e 65537) (hb : Bd b 65537) (b0 : b.m ≠ 0) :
    run G T 269 [workA F md, gaussA z z' (d, s) (e, t), DyA y b] = some (zrA (ptQ F md d s b) (ptQ F md e t b)) := by
  rw [run_k G T J.J.exact_work_both]
  have h1 := exact_work_part J F hm (z := z) (y := y) (s := s) nd nb hd hb b0
  have h2 := exact_work_part J F hm (z := z') (y := y) (s := t) ne nb he hb b0
  generalize ptQ F md d s b = S1 at *
  generalize ptQ F md e t b = S2 at *
  simp only [workA, numA, gaussA, zrA, DyA, A3] at *
  repeat' (first | (simp (maxSteps := 1000000) only [seval, evB, exB, c_exact_work_both, h1, h2]) | (simp (maxSteps := 1000000) (disch := first | with_reducible assumption | omega) only [dxB]) | (simp only [kI_d, kG_dt, kG_df]; split) | (simp only [kI_v, kG_vt, kG_vf]; split))
theorem dyad_Int1 (J : Al G T g) : ∃ z, run G T 272 [.int .i64 1] = some (DyA z oneD) := by
  apply exP
  rw [run_k G T J.J.dyad_Int]
  obtain ⟨z1, h1⟩ := nat_Of J (n := 1) (by decide)
  obtain ⟨z2, h2⟩ := dyad_Make J (n := false) (z := z1) (a := 1) (e := 0) (mayL_small (by decide)) (Or.inr (by rw [tz_odd (by decide)]; omega)) (by omega)
  rw [show mkD false 1 0 = oneD from mkD_odd (by decide)] at h2
  have w1 : IntKind.u64.wrap 1 = 1 := rfl
  rw [show ((1 : Nat) : Int) = 1 from rfl] at h1
  generalize oneD = d at *
  simp only [DyA, A3] at *
  repeat' (first | (simp (maxSteps := 1000000) only [seval, evB, exB, c_dyad_Int, w1, h1, h2]) | (simp (maxSteps := 1000000) (disch := first | with_reducible assumption | omega) only [dxB]) | (simp only [kI_d, kG_dt, kG_df]; split) | (simp only [kI_v, kG_vt, kG_vf]; split))
  all_goals exact ⟨_, rfl, z2, rfl⟩
noncomputable def kV2 (G : Nat → Option (List AV)) (T : Tbl) (f : AV) (args : List AV) (d : Option Nat) (os : List IOper) (e : Env) (h : Heap) : Option (Env × Heap) :=
  kW G (CF G T) (match f with
    | .fn k cap => (T k).bind fun fn => kJ G fn.res (evL G T fn.body (numE 0 (args ++ cap)) h)
    | _ => none) d os e
theorem st_callv (t : Nat) (args : List IOpd) (d : Option Nat) (os : List IOper) (e : Env) (h : Heap) :
    evOps G (CF G T) (⟨d, .call true (.t t) args, none⟩ :: os) e h = kV2 G T (opd e (.t t)) (args.map (opd e)) d os e h := by
  rw [st_calli]
  unfold kV2
  refine congrArg (fun o => kW G (CF G T) o d os e) ?_
  simp only [evW]
  cases opd e (.t t) <;> try rfl
  rename_i k cap
  simp only [CF_true]
  cases T k with
  | none => rfl
  | some fn =>
    simp only [Option.bind_some]
    cases evL G T fn.body (numE 0 (args.map (opd e) ++ cap)) h with
    | none => rfl
    | some r => obtain ⟨x, e, h⟩ := r; cases x <;> rfl
theorem kV2_fn {k : Nat} {fn : IFn} (hf : T k = some fn) (cap args : List AV) (d : Option Nat) (os : List IOper) (e : Env) (h : Heap) :
    kV2 G T (.fn k cap) args d os e h = kW G (CF G T) (kJ G fn.res (evL G T fn.body (numE 0 (args ++ cap)) h)) d os e := by
  unfold kV2; simp only [hf, Option.bind_some]
theorem xor_top {k w : Nat} (h : w < 2 ^ k) : w ^^^ 2 ^ k = 2 ^ k + w := by
  apply Nat.eq_of_testBit_eq
  intro j
  rw [Nat.testBit_xor]
  rcases Nat.lt_trichotomy j k with q | q | q
  · rw [Nat.testBit_two_pow_of_ne (by omega), Nat.testBit_two_pow_add_gt q, Bool.xor_false]
  · subst q
    rw [Nat.testBit_two_pow_self, Nat.testBit_two_pow_add_eq, Nat.testBit_lt_two_pow h]; rfl
  · have h2 := Nat.pow_le_pow_right (n := 2) (by decide) (show k + 1 ≤ j from q)
    rw [Nat.pow_succ] at h2
    rw [Nat.testBit_two_pow_of_ne (by omega), Nat.testBit_lt_two_pow (by omega), Nat.testBit_lt_two_pow (by omega)]; rfl
theorem xor_sg (F : Fm) {w : Nat} (hw : w < 2 * F.sg) : w ^^^ F.sg = F.flip w := by
  obtain ⟨k, hk⟩ : ∃ k, F.sg = 2 ^ k := by cases F; exact ⟨31, rfl⟩; exact ⟨63, rfl⟩
  unfold Fm.flip Fm.ng Fm.sgn
  rw [hk] at hw ⊢
  have hp := Nat.two_pow_pos k
  by_cases h : 2 ^ k ≤ w
  · rw [decide_eq_true h, Bool.not_true, if_neg (by decide), Nat.mod_eq_sub_mod h, Nat.mod_eq_of_lt (by omega), Nat.add_zero]
    have e := xor_top (k := k) (w := w - 2 ^ k) (by omega)
    rw [show 2 ^ k + (w - 2 ^ k) = w by omega] at e
    rw [← e, Nat.xor_assoc, Nat.xor_self, Nat.xor_zero]
    rw [e]
  · rw [decide_eq_false h, Bool.not_false, if_pos rfl, Nat.mod_eq_of_lt (by omega), xor_top (by omega), Nat.add_comm]
theorem xor64 {a b : Nat} (ha : a < 18446744073709551616) (hb : b < 18446744073709551616) : xorI .u64 (a : Int) (b : Int) = ((a ^^^ b : Nat) : Int) := by
  have : a ^^^ b < 2 ^ 64 := Nat.xor_lt_two_pow (n := 64) ha hb
  rw [xorI_eq]
  show IntKind.u64.wrap ((BitVec.ofInt 64 a ^^^ BitVec.ofInt 64 b).toNat : Int) = _
  simp only [BitVec.toNat_xor, BitVec.toNat_ofInt, wrap_u64]
  have e1 : ((a : Int) % (2 ^ 64 : Nat)).toNat = a := by omega
  have e2 : ((b : Int) % (2 ^ 64 : Nat)).toNat = b := by omega
  rw [e1, e2]; omega
theorem word_Neg (J : Al G T g) (F : Fm) {w : Nat} (hw : w < 2 * F.sg) : run G T 310 [.int .u8 F.u, .int .u64 (w : Int)] = some (.tup [.int .u64 (F.min w : Int), .int .i64 0]) := by
  rw [run_k G T J.J.word_Neg]
  have h1 := word_open1 J F (sg_64 hw)
  rw [if_pos hw] at h1
  have h2 := word_class J F hw
  have h3 := word_none J F
  have x1 := xor64 (a := w) (b := F.sg) (sg_64 hw) (by cases F <;> decide)
  rw [xor_sg F hw] at x1
  have kv := fun cap args d os e h => kV2_fn (G := G) (T := T) J.J.word_Neg_1 cap args d os e h
  have kt := fun d args os e h => st_callk (G := G) (T := T) J.J.word_turned d args os e h
  unfold Fm.min
  by_cases h5 : F.cls w = 5
  · rw [if_pos h5]
    rw [h5] at h2
    simp only [shA] at *
    repeat' (first | (simp (maxSteps := 1000000) only [seval, evB, exB, c_word_Neg, kt, c_word_turned, h1, h2, h3]) | (simp (maxSteps := 1000000) (disch := first | with_reducible assumption | omega) only [dxB]) | (simp only [kI_d, kG_dt, kG_df]; split) | (simp only [kI_v, kG_vt, kG_vf]; split))
  · rw [if_neg h5]
    generalize F.cls w = c at *
    simp only [shA] at *
    repeat' (first | (simp (maxSteps := 1000000) only [seval, evB, exB, c_word_Neg, kt, c_word_turned, h1, h2, h5, st_callv, kv, c_word_Neg_1, kJ_ret, x1]) | (simp (maxSteps := 1000000) (disch := first | with_reducible assumption | omega) only [dxB]) | (simp only [kI_d, kG_dt, kG_df]; split) | (simp only [kI_v, kG_vt, kG_vf]; split))
def sd (F : Fm) (w : Nat) (inf : Bool) : Int × Bool :=
  if F.cls w = 5 then (0, false) else if (if inf then F.cls w = 4 else F.cls w ≠ 1) then (if F.ng w then (-1, true) else (1, false)) else (0, F.ng w)
def sT (a b : Int × Bool) : Int × Bool := (a.1 * b.1, a.2 != b.2)
def sM (a : Int × Bool) : Int × Bool := (-a.1, !a.2)
def sP (md : Int) (a b : Int × Bool) : Int × Bool := if a.1 + b.1 ≠ 0 then (a.1 + b.1, decide (a.1 + b.1 < 0)) else if a.1 = 0 ∧ a.2 = b.2 then a else (0, decide (md = 5))
def SdC (p : Int × Bool) : Prop := p = (-1, true) ∨ p = (1, false) ∨ p = (0, true) ∨ p = (0, false)
theorem sd_c (F : Fm) (w : Nat) (inf : Bool) : SdC (sd F w inf) := by
  unfold sd SdC
  by_cases h : F.cls w = 5
  · rw [if_pos h]; simp
  · rw [if_neg h]
    by_cases k : (if inf then F.cls w = 4 else F.cls w ≠ 1)
    · rw [if_pos k]; cases F.ng w <;> simp
    · rw [if_neg k]; cases F.ng w <;> simp
theorem sT_c {a b : Int × Bool} (ha : SdC a) (hb : SdC b) : SdC (sT a b) := by
  rcases ha with rfl | rfl | rfl | rfl <;> rcases hb with rfl | rfl | rfl | rfl <;> simp [SdC, sT]
theorem sM_c {a : Int × Bool} (ha : SdC a) : SdC (sM a) := by
  rcases ha with rfl | rfl | rfl | rfl <;> simp [SdC, sM]
def bxT (md : Int) (p q r s : Int × Bool) : (Int × Bool) × (Int × Bool) := (sP md (sT p r) (sM (sT q s)), sP md (sT p s) (sT q r))
def Fm.one (F : Fm) : Nat := F.most / 2 * 2 ^ F.fr
def bw (F : Fm) (p : Int × Bool) : Nat := if p.1 = 0 then F.sgn p.2 else F.one + F.sgn p.2
theorem one_facts (F : Fm) (n : Bool) : F.one ≠ 0 ∧ F.one < F.i0 ∧ F.val (F.one + F.sgn n) = ⟨n, 1, 0⟩ := by
  have e : F.one = F.enc (2 ^ F.fr) (-F.fr) := by cases F <;> decide
  refine ⟨by cases F <;> decide, by cases F <;> decide, ?_⟩
  rw [e, val_enc F n (by have := Nat.two_pow_pos F.fr; omega) (by rw [Nat.pow_succ]; have := Nat.two_pow_pos F.fr; omega) (by cases F <;> decide) (Or.inr (Nat.le_refl _)) (by cases F <;> decide)]
  have := mkD_oddp (n := n) (m := 1) (e := 0) (by decide) F.fr
  rwa [Nat.one_mul, Int.zero_sub] at this
theorem two_facts (F : Fm) (n : Bool) : F.one + 2 ^ F.fr ≠ 0 ∧ F.one + 2 ^ F.fr < F.i0 ∧ F.val (F.one + 2 ^ F.fr + F.sgn n) = ⟨n, 1, 1⟩ := by
  have e : F.one + 2 ^ F.fr = F.enc (2 ^ F.fr) (1 - F.fr) := by cases F <;> decide
  refine ⟨by cases F <;> decide, by cases F <;> decide, ?_⟩
  rw [e, val_enc F n (by have := Nat.two_pow_pos F.fr; omega) (by rw [Nat.pow_succ]; have := Nat.two_pow_pos F.fr; omega) (by cases F <;> decide) (Or.inr (Nat.le_refl _)) (by cases F <;> decide)]
  have := mkD_oddp (n := n) (m := 1) (e := 1) (by decide) F.fr
  rwa [Nat.one_mul] at this
theorem sgn_facts (F : Fm) (n : Bool) : F.sgn n < 2 * F.sg ∧ F.ng (F.sgn n) = n ∧ F.cls (F.sgn n) = 1 ∧ F.vl (F.sgn n) = ⟨false, 0, 0⟩ := by
  have hi := fm_i0 F
  obtain ⟨g1, g2, g3⟩ := sgn_fin F n
  have h2 := (sgn_mod (F := F) (s := 0) n (by omega)).2
  rw [Nat.zero_add] at h2
  exact ⟨g1, h2, by rw [cls_val1 g1 g2, g3], g3⟩
theorem big_facts (F : Fm) {s : Nat} {d : Dy} (n : Bool) (h0 : s ≠ 0) (h1 : s < F.i0) (hv : F.val (s + F.sgn n) = d) (hm : d.m ≠ 0) : s + F.sgn n < 2 * F.sg ∧ F.ng (s + F.sgn n) = n ∧ F.cls (s + F.sgn n) ≠ 1 ∧ F.fin (s + F.sgn n) ∧ F.vl (s + F.sgn n) = d ∧ ∀ md, sumW F md d = (s + F.sgn n, 0) := by
  have hi := fm_i0 F
  have hf := fin_size (F := F) n h1
  have hl : s + F.sgn n < 2 * F.sg := by unfold Fm.sgn; split <;> omega
  have hvl : F.vl (s + F.sgn n) = d := by rw [vl_val hf, hv]
  refine ⟨hl, (sgn_mod n (by omega)).2, fun q => ?_, hf, hvl, fun md => ?_⟩
  · have := (cls_val1 hl hf).1 q
    rw [hvl] at this; exact hm this
  · have := (round_val F md n h1 h0).1
    rw [hv] at this
    unfold sumW; rw [if_neg hm]; exact this
theorem bw_facts (F : Fm) {p : Int × Bool} (hp : SdC p) : bw F p < 2 * F.sg ∧ F.ng (bw F p) = p.2 ∧ F.fin (bw F p) ∧ (F.cls (bw F p) = 1 ↔ p.1 = 0) ∧ F.vl (bw F p) = if p.1 = 0 then ⟨false, 0, 0⟩ else ⟨p.2, 1, 0⟩ := by
  unfold bw
  by_cases h : p.1 = 0
  · simp only [if_pos h]
    obtain ⟨q1, q2, q3, q4⟩ := sgn_facts F p.2
    exact ⟨q1, q2, fin_iff.2 (Or.inl q3), by simp [q3, h], q4⟩
  · simp only [if_neg h]
    obtain ⟨e1, e2, e3⟩ := one_facts F p.2
    obtain ⟨q1, q2, q3, q4, q5, _⟩ := big_facts F p.2 e1 e2 e3 Nat.one_ne_zero
    exact ⟨q1, q2, q4, by simp [q3, h], q5⟩
theorem bw_flip (F : Fm) {p : Int × Bool} (hp : SdC p) : F.flip (bw F p) = bw F (sM p) := by
  have hi := fm_i0 F
  unfold Fm.flip
  rw [(bw_facts F hp).2.1]
  unfold bw sM
  by_cases h : p.1 = 0
  · rw [if_pos h, if_pos (by simp [h])]
    have := (sgn_mod (F := F) (s := 0) p.2 (by omega)).1
    rw [Nat.zero_add] at this
    rw [this, Nat.zero_add]
  · rw [if_neg h, if_neg (by simp; omega)]
    obtain ⟨e1, e2, _⟩ := one_facts F p.2
    rw [(sgn_mod (F := F) p.2 (by omega)).1]
theorem bw_mul (F : Fm) (md : Int) {p r : Int × Bool} (hp : SdC p) (hr : SdC r) : mulW2 F md (bw F p) (bw F r) = (bw F (sT p r), 0) := by
  obtain ⟨a1, a2, a3, a4, a5⟩ := bw_facts F hp
  obtain ⟨b1, b2, b3, b4, b5⟩ := bw_facts F hr
  unfold mulW2
  rw [mulP_fin F md (fin_iff.1 a3) (fin_iff.1 b3), a2, b2, a5, b5]
  by_cases h : p.1 = 0 ∨ r.1 = 0
  · rw [if_pos (by rw [a4, b4]; exact h)]
    unfold bw sT
    rw [if_pos (by rcases h with h | h <;> simp [h])]
  · rw [if_neg (by rw [a4, b4]; exact h)]
    have h1 : p.1 ≠ 0 := fun q => h (Or.inl q)
    have h2 : r.1 ≠ 0 := fun q => h (Or.inr q)
    rw [if_neg h1, if_neg h2]
    have e : mulD ⟨p.2, 1, 0⟩ ⟨r.2, 1, 0⟩ = ⟨p.2 != r.2, 1, 0⟩ := mkD_odd (show 1 * 1 % 2 = 1 from rfl)
    rw [e]
    obtain ⟨e1, e2, e3⟩ := one_facts F (p.2 != r.2)
    rw [(big_facts F _ e1 e2 e3 Nat.one_ne_zero).2.2.2.2.2 md]
    unfold bw sT
    rw [if_neg (by simp [h1, h2])]
theorem bw_add (F : Fm) (md : Int) {p r : Int × Bool} (hp : SdC p) (hr : SdC r) : (addW F md (bw F p) (bw F r)).1 < 2 * F.sg ∧
    (((sP md p r).1 = 0 ∧ F.cls (addW F md (bw F p) (bw F r)).1 = 1 ∧ (addW F md (bw F p) (bw F r)).1 = F.sgn (sP md p r).2) ∨
     ((sP md p r).1 ≠ 0 ∧ F.cls (addW F md (bw F p) (bw F r)).1 ≠ 1 ∧ F.ng (addW F md (bw F p) (bw F r)).1 = (sP md p r).2)) := by
  obtain ⟨a1, a2, a3, a4, a5⟩ := bw_facts F hp
  obtain ⟨b1, b2, b3, b4, b5⟩ := bw_facts F hr
  have hz : ∀ n, F.sgn n < 2 * F.sg ∧ F.cls (F.sgn n) = 1 := fun n => ⟨(sgn_facts F n).1, (sgn_facts F n).2.2.1⟩
  have h1 : ∀ n, F.one + F.sgn n < 2 * F.sg ∧ F.cls (F.one + F.sgn n) ≠ 1 ∧ F.ng (F.one + F.sgn n) = n := fun n => by
    obtain ⟨e1, e2, e3⟩ := one_facts F n
    obtain ⟨q1, q2, q3, _⟩ := big_facts F n e1 e2 e3 Nat.one_ne_zero
    exact ⟨q1, q3, q2⟩
  have h2 : ∀ n, F.one + 2 ^ F.fr + F.sgn n < 2 * F.sg ∧ F.cls (F.one + 2 ^ F.fr + F.sgn n) ≠ 1 ∧ F.ng (F.one + 2 ^ F.fr + F.sgn n) = n := fun n => by
    obtain ⟨e1, e2, e3⟩ := two_facts F n
    obtain ⟨q1, q2, q3, _⟩ := big_facts F n e1 e2 e3 Nat.one_ne_zero
    exact ⟨q1, q3, q2⟩
  have s1 : ∀ n, sumW F md ⟨n, 1, 0⟩ = (F.one + F.sgn n, 0) := fun n => by
    obtain ⟨e1, e2, e3⟩ := one_facts F n
    exact (big_facts F n e1 e2 e3 Nat.one_ne_zero).2.2.2.2.2 md
  have s2 : ∀ n, sumW F md ⟨n, 1, 1⟩ = (F.one + 2 ^ F.fr + F.sgn n, 0) := fun n => by
    obtain ⟨e1, e2, e3⟩ := two_facts F n
    exact (big_facts F n e1 e2 e3 Nat.one_ne_zero).2.2.2.2.2 md
  have s0 : sumW F md ⟨false, 0, 0⟩ = (F.sgn (decide (md = 5)), 0) := rfl
  have m2 : ∀ n, mkD n 2 0 = ⟨n, 1, 1⟩ := fun n => by
    have := mkD_oddp (n := n) (m := 1) (e := 1) (by decide) 1
    exact this
  have m0 : ∀ n, mkD n 0 0 = ⟨false, 0, 0⟩ := fun n => mkD_zero n 0
  have hw : addW F md (bw F p) (bw F r) = if p.1 = 0 ∧ r.1 = 0 ∧ p.2 = r.2 then (F.sgn p.2, 0) else sumW F md (addD (if p.1 = 0 then ⟨false, 0, 0⟩ else ⟨p.2, 1, 0⟩) (if r.1 = 0 then ⟨false, 0, 0⟩ else ⟨r.2, 1, 0⟩)) := by
    unfold addW
    rw [addP_fin F md (fin_iff.1 a3) (fin_iff.1 b3), a2, b2, a5, b5]
    simp only [a4, b4]
  rw [hw]
  rcases hp with rfl | rfl | rfl | rfl <;> rcases hr with rfl | rfl | rfl | rfl <;>
    simp [addD, sP, s0, s1, s2, m2, m0, hz, h1, h2]
theorem ia22_0 (b : Nat) (k : IntKind) : iaddrAV 2 2 (.ptr b 0) (.int k 0) = some (.ptr b 0) := rfl
theorem ia22_1 (b : Nat) (k : IntKind) : iaddrAV 2 2 (.ptr b 0) (.int k 1) = some (.ptr b 2) := rfl
theorem ia21_0 (b : Nat) (k : IntKind) : iaddrAV 2 1 (.ptr b 0) (.int k 0) = some (.ptr b 0) := rfl
theorem ia21_1 (b : Nat) (k : IntKind) : iaddrAV 2 1 (.ptr b 0) (.int k 1) = some (.ptr b 1) := rfl
theorem ix22_0 (a b c d : AV) (k : IntKind) : indexV true 2 2 (.agg [a, b, c, d]) (.int k 0) = some (.agg [a, b]) := rfl
theorem ix22_1 (a b c d : AV) (k : IntKind) : indexV true 2 2 (.agg [a, b, c, d]) (.int k 1) = some (.agg [c, d]) := rfl
def sideA (p : Int × Bool) : AV := .agg [.int .i64 p.1, .bool p.2]
def boxA (p q : Int × Bool) : AV := .agg [.int .i64 p.1, .bool p.2, .int .i64 q.1, .bool q.2]
theorem special_side_times (J : Al G T g) {p q : Int × Bool} (hp : SdC p) (hq : SdC q) : run G T 308 [sideA p, sideA q] = some (sideA (sT p q)) := by
  rw [run_k G T J.J.special_side_times]
  have w : IntKind.i64.wrap (p.1 * q.1) = p.1 * q.1 := wrap_i64 (by rcases hp with rfl | rfl | rfl | rfl <;> rcases hq with rfl | rfl | rfl | rfl <;> decide)
  obtain ⟨n, s⟩ := p
  obtain ⟨k, t⟩ := q
  have hne : (s != t) = !decide (s = t) := by cases s <;> cases t <;> rfl
  simp only [sideA, sT, hne] at *
  repeat' (first | (simp (maxSteps := 1000000) only [seval, evB, exB, c_special_side_times, w]) | (simp (maxSteps := 1000000) (disch := first | with_reducible assumption | omega) only [dxB]) | (simp only [kI_d, kG_dt, kG_df]; split) | (simp only [kI_v, kG_vt, kG_vf]; split))
theorem special_side_minus (J : Al G T g) {p : Int × Bool} (hp : SdC p) : run G T 302 [sideA p] = some (sideA (sM p)) := by
  rw [run_k G T J.J.special_side_minus]
  rcases hp with rfl | rfl | rfl | rfl <;> (
    have w1 : IntKind.i64.wrap (- -1) = 1 := rfl
    have w2 : IntKind.i64.wrap (-1) = -1 := rfl
    have w3 : IntKind.i64.wrap 0 = 0 := rfl
    have w4 : IntKind.i64.wrap 1 = 1 := rfl
    have w5 : IntKind.i64.wrap (-0) = 0 := rfl
    simp only [sideA, sM, Int.neg_zero, Int.reduceNeg, Int.neg_neg, Bool.not_true, Bool.not_false] at *
    repeat' (first | (simp (maxSteps := 1000000) only [seval, evB, exB, c_special_side_minus, w1, w2, w3, w4, w5]) | (simp (maxSteps := 1000000) (disch := first | with_reducible assumption | omega) only [dxB]) | (simp only [kI_d, kG_dt, kG_df]; split) | (simp only [kI_v, kG_vt, kG_vf]; split)))
theorem special_side_plus (J : Al G T g) {md : Int} {p q : Int × Bool} (hp : SdC p) (hq : SdC q) : run G T 309 [sideA p, sideA q, .int .u8 md] = some (sideA (sP md p q)) := by
  rw [run_k G T J.J.special_side_plus]
  have w : IntKind.i64.wrap (p.1 + q.1) = p.1 + q.1 := wrap_i64 (by rcases hp with rfl | rfl | rfl | rfl <;> rcases hq with rfl | rfl | rfl | rfl <;> decide)
  unfold sP
  obtain ⟨n, s⟩ := p
  obtain ⟨k, t⟩ := q
  simp only [sideA] at *
  by_cases h0 : n + k = 0
  · have h0' : ¬ n + k ≠ 0 := fun h => h h0
    rw [if_neg h0']
    by_cases h1 : n = 0
    · by_cases h2 : s = t
      · rw [if_pos ⟨h1, h2⟩]
        subst h2
        rw [h0] at w
        repeat' (first | (simp (maxSteps := 1000000) only [seval, evB, exB, c_special_side_plus, w, h0, h1]) | (simp (maxSteps := 1000000) (disch := first | with_reducible assumption | omega) only [dxB]) | (simp only [kI_d, kG_dt, kG_df]; split) | (simp only [kI_v, kG_vt, kG_vf]; split))
      · rw [if_neg (fun h => h2 h.2)]
        repeat' (first | (simp (maxSteps := 1000000) only [seval, evB, exB, c_special_side_plus, w, h0, h1, h2]) | (simp (maxSteps := 1000000) (disch := first | with_reducible assumption | omega) only [dxB]) | (simp only [kI_d, kG_dt, kG_df]; split) | (simp only [kI_v, kG_vt, kG_vf]; split))
    · rw [if_neg (fun h => h1 h.1)]
      repeat' (first | (simp (maxSteps := 1000000) only [seval, evB, exB, c_special_side_plus, w, h0, h1]) | (simp (maxSteps := 1000000) (disch := first | with_reducible assumption | omega) only [dxB]) | (simp only [kI_d, kG_dt, kG_df]; split) | (simp only [kI_v, kG_vt, kG_vf]; split))
  · rw [if_pos h0]
    repeat' (first | (simp (maxSteps := 1000000) only [seval, evB, exB, c_special_side_plus, w, h0]) | (simp (maxSteps := 1000000) (disch := first | with_reducible assumption | omega) only [dxB]) | (simp only [kI_d, kG_dt, kG_df]; split) | (simp only [kI_v, kG_vt, kG_vf]; split))
theorem special_sideOf (J : Al G T g) (F : Fm) {w : Nat} {inf : Bool} (hw : w < 2 * F.sg) : run G T 307 [.int .u8 F.u, .int .u64 (w : Int), .bool inf] = some (sideA (sd F w inf)) := by
  rw [run_k G T J.J.special_sideOf]
  have h1 := word_Class J F hw
  have h2 := word_Split J F hw
  unfold sd
  generalize F.cls w = c at *
  generalize F.ng w = n at *
  generalize F.ex w = x at *
  generalize F.fc w = y at *
  simp only [fldA, sideA] at *
  by_cases h5 : c = 5
  · subst h5
    rw [if_pos rfl]
    cases inf <;> repeat' (first | (simp (maxSteps := 1000000) only [seval, evB, exB, c_special_sideOf, h1, h2]) | (simp (maxSteps := 1000000) (disch := first | with_reducible assumption | omega) only [dxB]) | (simp only [kI_d, kG_dt, kG_df]; split) | (simp only [kI_v, kG_vt, kG_vf]; split))
  · rw [if_neg h5]
    cases inf
    · simp only [Bool.false_eq_true, if_false]
      by_cases k : c = 1
      · rw [if_neg (fun h => h k)]
        repeat' (first | (simp (maxSteps := 1000000) only [seval, evB, exB, c_special_sideOf, h1, h2, h5, k]) | (simp (maxSteps := 1000000) (disch := first | with_reducible assumption | omega) only [dxB]) | (simp only [kI_d, kG_dt, kG_df]; split) | (simp only [kI_v, kG_vt, kG_vf]; split))
      · rw [if_pos k]
        cases n <;> repeat' (first | (simp (maxSteps := 1000000) only [seval, evB, exB, c_special_sideOf, h1, h2, h5, k]) | (simp (maxSteps := 1000000) (disch := first | with_reducible assumption | omega) only [dxB]) | (simp only [kI_d, kG_dt, kG_df]; split) | (simp only [kI_v, kG_vt, kG_vf]; split))
    · simp only [if_true]
      by_cases k : c = 4
      · rw [if_pos k]
        cases n <;> repeat' (first | (simp (maxSteps := 1000000) only [seval, evB, exB, c_special_sideOf, h1, h2, h5, k]) | (simp (maxSteps := 1000000) (disch := first | with_reducible assumption | omega) only [dxB]) | (simp only [kI_d, kG_dt, kG_df]; split) | (simp only [kI_v, kG_vt, kG_vf]; split))
      · rw [if_neg k]
        repeat' (first | (simp (maxSteps := 1000000) only [seval, evB, exB, c_special_sideOf, h1, h2, h5, k]) | (simp (maxSteps := 1000000) (disch := first | with_reducible assumption | omega) only [dxB]) | (simp only [kI_d, kG_dt, kG_df]; split) | (simp only [kI_v, kG_vt, kG_vf]; split))
theorem special_boxOf (J : Al G T g) (F : Fm) {a b : Nat} {c : Int} (ha : a < 2 * F.sg) (hb : b < 2 * F.sg) : run G T 291 [.int .u8 F.u, zA a b, .int .u8 c] = some (boxA (sd F a (decide (c = 3))) (sd F b (decide (c = 3)))) := by
  rw [run_k G T J.J.special_boxOf]
  have h1 := special_sideOf J F (inf := decide (c = 3)) ha
  have h2 := special_sideOf J F (inf := decide (c = 3)) hb
  generalize sd F a (decide (c = 3)) = p at *
  generalize sd F b (decide (c = 3)) = q at *
  simp only [zA, sideA, boxA] at *
  repeat' (first | (simp (maxSteps := 1000000) only [seval, evB, exB, c_special_boxOf, h1, h2]) | (simp (maxSteps := 1000000) (disch := first | with_reducible assumption | omega) only [dxB]) | (simp only [kI_d, kG_dt, kG_df]; split) | (simp only [kI_v, kG_vt, kG_vf]; split))
theorem special_box_times (J : Al G T g) {md : Int} {p q r s : Int × Bool} (hp : SdC p) (hq : SdC q) (hr : SdC r) (hs : SdC s) :
    run G T 292 [boxA p q, boxA r s, .int .u8 md] = some (boxA (bxT md p q r s).1 (bxT md p q r s).2) := by
  rw [run_k G T J.J.special_box_times]
  have h1 := special_side_times J hp hr
  have h2 := special_side_times J hq hs
  have h3 := special_side_minus J (sT_c hq hs)
  have h4 := special_side_plus J (md := md) (sT_c hp hr) (sM_c (sT_c hq hs))
  have h5 := special_side_times J hp hs
  have h6 := special_side_times J hq hr
  have h7 := special_side_plus J (md := md) (sT_c hp hs) (sT_c hq hr)
  unfold bxT
  generalize sP md (sT p r) (sM (sT q s)) = x at *
  generalize sP md (sT p s) (sT q r) = y at *
  generalize sM (sT q s) = z at *
  generalize sT p r = t1 at *
  generalize sT q s = t2 at *
  generalize sT p s = t3 at *
  generalize sT q r = t4 at *
  simp only [sideA, boxA] at *
  repeat' (first | (simp (maxSteps := 1000000) only [seval, evB, exB, c_special_box_times, ia22_0, ia22_1, h1, h2, h3, h4, h5, h6, h7]) | (simp (maxSteps := 1000000) (disch := first | with_reducible assumption | omega) only [dxB]) | (simp only [kI_d, kG_dt, kG_df]; split) | (simp only [kI_v, kG_vt, kG_vf]; split))
def sideW (F : Fm) (size : Nat) (p : Int × Bool) : Nat := if p.2 then F.min (if p.1 ≠ 0 then size else 0) else if p.1 ≠ 0 then size else 0
theorem bx_loop (e : Env) (h : Heap) : evL G T c_special_box_words_l1 e h = kS G T (evL G T c_special_box_words_b1 (keepE [1, 2, 6, 7, 10, 11] e) h) c_special_box_words_l1 := s_loopc G T rfl e h
set_option maxHeartbeats 4000000 in
theorem special_box_words (J : Al G T g) (F : Fm) {size : Nat} (hs : size < 2 * F.sg) {p q : Int × Bool} : run G T 293 [boxA p q, .int .u8 F.u, .int .u64 (size : Int)] = some (zA (sideW F size p) (sideW F size q)) := by
  rw [run_k G T J.J.special_box_words]
  have z0 : (0 : Nat) < 2 * F.sg := by cases F <;> decide
  have n1 := word_Neg J F hs
  have n2 := word_Neg J F z0
  unfold sideW
  obtain ⟨n, s⟩ := p
  obtain ⟨k, t⟩ := q
  simp only [boxA, zA, cast0] at *
  by_cases h1 : n = 0 <;> by_cases h2 : k = 0 <;> cases s <;> cases t <;> simp only [h1, h2, ne_eq, not_true_eq_false, not_false_eq_true, if_true, if_false, Bool.false_eq_true, cast0] <;>
    repeat' (first | (simp (maxSteps := 1000000) only [seval, evB, exB, c_special_box_words, ix22_0, ix22_1, ia21_0, ia21_1, bx_loop, c_special_box_words_b1, h1, h2, n1, n2, wr_1, wr1, wr_2, wr2]) | (simp (maxSteps := 1000000) (disch := first | with_reducible assumption | omega) only [dxB]) | (simp only [kI_d, kG_dt, kG_df]; split) | (simp only [kI_v, kG_vt, kG_vf]; split))
theorem special_none (J : Al G T g) (F : Fm) {x : Nat} : run G T 290 [.int .u8 F.u, .int .u8 (x : Int)] = some (zrA (F.nan, x) (F.nan, x)) := by
  rw [run_k G T J.J.special_none]
  have h1 := word_None J F
  simp only [zrA]
  repeat' (first | (simp (maxSteps := 1000000) only [seval, evB, exB, c_special_none, h1]) | (simp (maxSteps := 1000000) (disch := first | with_reducible assumption | omega) only [dxB]) | (simp only [kI_d, kG_dt, kG_df]; split) | (simp only [kI_v, kG_vt, kG_vf]; split))
theorem ref11_One (J : Al G T g) (F : Fm) {n : Bool} : run G T 303 [.int .u8 F.u, .bool n] = some (.int .u64 ((F.one + F.sgn n : Nat) : Int)) := by
  rw [run_k G T J.J.ref11_One]
  have h1 := ref03_Most J F
  cases F
  · have h2 := ref03_Join J .s (n := n) (x := 127) (w := 0) (by decide) (Or.inl (by decide))
    cases n <;> (
      simp only [fldA, Fm.u, Fm.one, Fm.most, Fm.fr, Fm.sgn, Fm.sg, Int.cast_ofNat_Int, Nat.reducePow, Nat.reduceMul, Nat.reduceDiv, Nat.reduceAdd, Bool.false_eq_true, if_false, if_true, cast0, Nat.add_zero] at *
      have q : IntKind.i64.wrap ((255 : Int).tdiv 2) = 127 := rfl
      repeat' (first | (simp (maxSteps := 1000000) only [seval, evB, exB, c_ref11_One, h1, q, h2]) | (simp (maxSteps := 1000000) (disch := first | with_reducible assumption | omega) only [dxB]) | (simp only [kI_d, kG_dt, kG_df]; split) | (simp only [kI_v, kG_vt, kG_vf]; split)))
  · have h2 := ref03_Join J .d (n := n) (x := 1023) (w := 0) (by decide) (Or.inl (by decide))
    cases n <;> (
      simp only [fldA, Fm.u, Fm.one, Fm.most, Fm.fr, Fm.sgn, Fm.sg, Int.cast_ofNat_Int, Nat.reducePow, Nat.reduceMul, Nat.reduceDiv, Nat.reduceAdd, Bool.false_eq_true, if_false, if_true, cast0, Nat.add_zero] at *
      have q : IntKind.i64.wrap ((2047 : Int).tdiv 2) = 1023 := rfl
      repeat' (first | (simp (maxSteps := 1000000) only [seval, evB, exB, c_ref11_One, h1, q, h2]) | (simp (maxSteps := 1000000) (disch := first | with_reducible assumption | omega) only [dxB]) | (simp only [kI_d, kG_dt, kG_df]; split) | (simp only [kI_v, kG_vt, kG_vf]; split)))
def bxw (F : Fm) (w : Nat) (big : Bool) : Nat := if big then F.one + F.sgn (decide (F.cls w ≠ 5) && F.ng w) else F.sgn (decide (F.cls w ≠ 5) && F.ng w)
theorem ref11_box (J : Al G T g) (F : Fm) {w : Nat} {big : Bool} (hw : w < 2 * F.sg) : run G T 311 [.int .u8 F.u, .int .u64 (w : Int), .bool big] = some (.int .u64 (bxw F w big : Int)) := by
  rw [run_k G T J.J.ref11_box]
  have h1 := ref03_Class J F (sg_64 hw)
  have h2 := ref03_Split J F (sg_64 hw)
  have h3 := fun n => ref11_One J F (n := n)
  have h4 := fun n => ref03_Signed J F (n := n) (w := 0)
  rw [Nat.zero_mod] at h4
  unfold bxw
  generalize F.cls w = c at *
  generalize F.ng w = n at *
  generalize F.ex w = x at *
  generalize F.fc w = y at *
  simp only [fldA, cast0, Nat.zero_add] at *
  by_cases h5 : c = 5
  · have h3 := h3 false
    have h4 := h4 false
    subst h5
    simp only [ne_eq, not_true_eq_false, decide_false, Bool.false_and]
    cases big
    · simp only [Bool.false_eq_true, if_false]
      generalize F.sgn false = s at *
      repeat' (first | (simp (maxSteps := 1000000) only [seval, evB, exB, c_ref11_box, fd_3, h1, h4]) | (simp (maxSteps := 1000000) (disch := first | with_reducible assumption | omega) only [dxB]) | (simp only [kI_d, kG_dt, kG_df]; split) | (simp only [kI_v, kG_vt, kG_vf]; split))
    · simp only [if_true]
      generalize F.one + F.sgn false = s at *
      repeat' (first | (simp (maxSteps := 1000000) only [seval, evB, exB, c_ref11_box, fd_3, h1, h3]) | (simp (maxSteps := 1000000) (disch := first | with_reducible assumption | omega) only [dxB]) | (simp only [kI_d, kG_dt, kG_df]; split) | (simp only [kI_v, kG_vt, kG_vf]; split))
  · have h3 := h3 n
    have h4 := h4 n
    simp only [ne_eq, h5, not_false_eq_true, decide_true, Bool.true_and]
    cases big
    · simp only [Bool.false_eq_true, if_false]
      generalize F.sgn n = s at *
      repeat' (first | (simp (maxSteps := 1000000) only [seval, evB, exB, c_ref11_box, fd_3, h1, h5, h2, h4]) | (simp (maxSteps := 1000000) (disch := first | with_reducible assumption | omega) only [dxB]) | (simp only [kI_d, kG_dt, kG_df]; split) | (simp only [kI_v, kG_vt, kG_vf]; split))
    · simp only [if_true]
      generalize F.one + F.sgn n = s at *
      repeat' (first | (simp (maxSteps := 1000000) only [seval, evB, exB, c_ref11_box, fd_3, h1, h5, h2, h3]) | (simp (maxSteps := 1000000) (disch := first | with_reducible assumption | omega) only [dxB]) | (simp only [kI_d, kG_dt, kG_df]; split) | (simp only [kI_v, kG_vt, kG_vf]; split))
theorem bxw_bw (F : Fm) {w : Nat} {inf : Bool} (h : inf = true ∨ F.cls w ≠ 5) : bxw F w (if inf then decide (F.cls w = 4) else decide (F.cls w ≠ 1)) = bw F (sd F w inf) := by
  unfold bxw bw sd
  cases inf
  · have h5 : F.cls w ≠ 5 := by rcases h with h | h; cases h; exact h
    simp only [Bool.false_eq_true, if_false, h5, ne_eq, not_false_eq_true, decide_true, Bool.true_and, decide_eq_true_eq]
    by_cases k : F.cls w = 1
    · simp [k]
    · cases F.ng w <;> simp [k]
  · by_cases h5 : F.cls w = 5
    · simp [h5]
    · simp only [if_true, h5, ne_eq, not_false_eq_true, decide_true, Bool.true_and, decide_eq_true_eq, if_false]
      by_cases k : F.cls w = 4
      · cases F.ng w <;> simp [k]
      · simp [k]
theorem ref11_Box (J : Al G T g) (F : Fm) {a b : Nat} (ha : a < 2 * F.sg) (hb : b < 2 * F.sg) (h4 : zcl (F.cls a) (F.cls b) ≠ 4) :
    run G T 300 [.int .u8 F.u, zA a b] = some (zA (bw F (sd F a (decide (zcl (F.cls a) (F.cls b) = 3)))) (bw F (sd F b (decide (zcl (F.cls a) (F.cls b) = 3))))) := by
  rw [run_k G T J.J.ref11_Box]
  have h1 := ref10_Class J F ha hb
  have c1 := ref03_Class J F (sg_64 ha)
  have c2 := ref03_Class J F (sg_64 hb)
  by_cases h3 : zcl (F.cls a) (F.cls b) = 3
  · have e1 := bxw_bw F (w := a) (inf := true) (Or.inl rfl)
    have e2 := bxw_bw F (w := b) (inf := true) (Or.inl rfl)
    rw [decide_eq_true h3, ← e1, ← e2]
    simp only [if_true]
    have b1 := ref11_box J F (big := decide (F.cls a = 4)) ha
    have b2 := ref11_box J F (big := decide (F.cls b = 4)) hb
    generalize bxw F a (decide (F.cls a = 4)) = s1 at *
    generalize bxw F b (decide (F.cls b = 4)) = s2 at *
    rw [h3] at h1
    generalize F.cls a = ca at *
    generalize F.cls b = cb at *
    simp only [zA] at *
    repeat' (first | (simp (maxSteps := 1000000) only [seval, evB, exB, c_ref11_Box, h1, c1, c2, b1, b2]) | (simp (maxSteps := 1000000) (disch := first | with_reducible assumption | omega) only [dxB]) | (simp only [kI_d, kG_dt, kG_df]; split) | (simp only [kI_v, kG_vt, kG_vf]; split))
  · have n5 : F.cls a ≠ 5 ∧ F.cls b ≠ 5 := by
      unfold zcl at h3 h4
      by_cases q : F.cls a = 4 ∨ F.cls b = 4
      · rw [if_pos q] at h3; exact absurd rfl h3
      · rw [if_neg q] at h4
        by_cases r : F.cls a = 5 ∨ F.cls b = 5
        · rw [if_pos r] at h4; exact absurd rfl h4
        · exact ⟨fun h => r (Or.inl h), fun h => r (Or.inr h)⟩
    have e1 := bxw_bw F (w := a) (inf := false) (Or.inr n5.1)
    have e2 := bxw_bw F (w := b) (inf := false) (Or.inr n5.2)
    simp only [Bool.false_eq_true, if_false, ne_eq, decide_not] at e1 e2
    rw [decide_eq_false h3, ← e1, ← e2]
    clear e1 e2
    have b1 := ref11_box J F (big := !decide (F.cls a = 1)) ha
    have b2 := ref11_box J F (big := !decide (F.cls b = 1)) hb
    generalize bxw F a (!decide (F.cls a = 1)) = s1 at *
    generalize bxw F b (!decide (F.cls b = 1)) = s2 at *
    generalize zcl (F.cls a) (F.cls b) = zc at *
    generalize F.cls a = ca at *
    generalize F.cls b = cb at *
    simp only [zA] at *
    repeat' (first | (simp (maxSteps := 1000000) only [seval, evB, exB, c_ref11_Box, h1, h3, c1, c2, b1, b2]) | (simp (maxSteps := 1000000) (disch := first | with_reducible assumption | omega) only [dxB]) | (simp only [kI_d, kG_dt, kG_df]; split) | (simp only [kI_v, kG_vt, kG_vf]; split))
theorem ref11_product (J : Al G T g) (F : Fm) {md : Int} (hm : 1 ≤ md ∧ md ≤ 5) {p q r s : Int × Bool} (hp : SdC p) (hq : SdC q) (hr : SdC r) (hs : SdC s) :
    run G T 299 [.int .u8 F.u, .int .u8 md, zA (bw F p) (bw F q), zA (bw F r) (bw F s)] = some (zA (addW F md (bw F (sT p r)) (bw F (sM (sT q s)))).1 (addW F md (bw F (sT p s)) (bw F (sT q r))).1) := by
  rw [run_k G T J.J.ref11_product]
  have m1 := ref05_Mul J F hm (bw_facts F hp).1 (bw_facts F hr).1
  have m2 := ref05_Mul J F hm (bw_facts F hq).1 (bw_facts F hs).1
  have m3 := ref05_Mul J F hm (bw_facts F hp).1 (bw_facts F hs).1
  have m4 := ref05_Mul J F hm (bw_facts F hq).1 (bw_facts F hr).1
  rw [bw_mul F md hp hr] at m1
  rw [bw_mul F md hq hs] at m2
  rw [bw_mul F md hp hs] at m3
  rw [bw_mul F md hq hr] at m4
  have s1 := ref05_Sub J F hm (bw_facts F (sT_c hp hr)).1 (bw_facts F (sT_c hq hs)).1
  rw [subW_flip F md (bw_facts F (sT_c hq hs)).1, bw_flip F (sT_c hq hs)] at s1
  have s2 := ref05_Add J F hm (bw_facts F (sT_c hp hs)).1 (bw_facts F (sT_c hq hr)).1
  generalize addW F md (bw F (sT p r)) (bw F (sM (sT q s))) = X at *
  generalize addW F md (bw F (sT p s)) (bw F (sT q r)) = Y at *
  simp only [zA] at *
  repeat' (first | (simp (maxSteps := 1000000) only [seval, evB, exB, c_ref11_product, m1, m2, m3, m4, s1, s2]) | (simp (maxSteps := 1000000) (disch := first | with_reducible assumption | omega) only [dxB]) | (simp only [kI_d, kG_dt, kG_df]; split) | (simp only [kI_v, kG_vt, kG_vf]; split))
def trn (F : Fm) (to w : Nat) : Nat := if F.cls w = 1 then w else to % F.sg + F.sgn (F.ng w)
theorem tu_loop (e : Env) (h : Heap) : evL G T c_ref11_turned_l1 e h = kS G T (evL G T c_ref11_turned_b1 (keepE [0, 2, 6, 7, 8] e) h) c_ref11_turned_l1 := s_loopc G T rfl e h
theorem ref11_turned (J : Al G T g) (F : Fm) {a b to : Nat} (ha : a < 2 * F.sg) (hb : b < 2 * F.sg) :
    run G T 298 [.int .u8 F.u, zA a b, .int .u64 (to : Int)] = some (zA (trn F to a) (trn F to b)) := by
  rw [run_k G T J.J.ref11_turned]
  have c1 := ref03_Class J F (sg_64 ha)
  have c2 := ref03_Class J F (sg_64 hb)
  have p1 := ref03_Split J F (sg_64 ha)
  have p2 := ref03_Split J F (sg_64 hb)
  have q1 := ref03_Signed J F (n := F.ng a) (w := to)
  have q2 := ref03_Signed J F (n := F.ng b) (w := to)
  unfold trn
  generalize to % F.sg + F.sgn (F.ng a) = s1 at *
  generalize to % F.sg + F.sgn (F.ng b) = s2 at *
  generalize F.ng a = n1 at *
  generalize F.ng b = n2 at *
  generalize F.ex a = x1 at *
  generalize F.ex b = x2 at *
  generalize F.fc a = y1 at *
  generalize F.fc b = y2 at *
  simp only [zA, fldA] at *
  by_cases k1 : F.cls a = 1 <;> by_cases k2 : F.cls b = 1
  · rw [if_pos k1, if_pos k2]
    rw [k1] at c1
    rw [k2] at c2
    repeat' (first | (simp (maxSteps := 1000000) only [seval, evB, exB, c_ref11_turned, tu_loop, c_ref11_turned_b1, fd_3, repA_2, c1, c2, wr_1, wr1, wr_2, wr2]) | (simp (maxSteps := 1000000) (disch := first | with_reducible assumption | omega) only [dxB]) | (simp only [kI_d, kG_dt, kG_df]; split) | (simp only [kI_v, kG_vt, kG_vf]; split))
  · rw [if_pos k1, if_neg k2]
    rw [k1] at c1
    repeat' (first | (simp (maxSteps := 1000000) only [seval, evB, exB, c_ref11_turned, tu_loop, c_ref11_turned_b1, fd_3, repA_2, c1, c2, k2, p2, q2, wr_1, wr1, wr_2, wr2]) | (simp (maxSteps := 1000000) (disch := first | with_reducible assumption | omega) only [dxB]) | (simp only [kI_d, kG_dt, kG_df]; split) | (simp only [kI_v, kG_vt, kG_vf]; split))
  · rw [if_neg k1, if_pos k2]
    rw [k2] at c2
    repeat' (first | (simp (maxSteps := 1000000) only [seval, evB, exB, c_ref11_turned, tu_loop, c_ref11_turned_b1, fd_3, repA_2, c1, k1, p1, q1, c2, wr_1, wr1, wr_2, wr2]) | (simp (maxSteps := 1000000) (disch := first | with_reducible assumption | omega) only [dxB]) | (simp only [kI_d, kG_dt, kG_df]; split) | (simp only [kI_v, kG_vt, kG_vf]; split))
  · rw [if_neg k1, if_neg k2]
    repeat' (first | (simp (maxSteps := 1000000) only [seval, evB, exB, c_ref11_turned, tu_loop, c_ref11_turned_b1, fd_3, repA_2, c1, k1, p1, q1, c2, k2, p2, q2, wr_1, wr1, wr_2, wr2]) | (simp (maxSteps := 1000000) (disch := first | with_reducible assumption | omega) only [dxB]) | (simp only [kI_d, kG_dt, kG_df]; split) | (simp only [kI_v, kG_vt, kG_vf]; split))
theorem ref11_nothing (J : Al G T g) (F : Fm) {x : Nat} : run G T 297 [.int .u8 F.u, .int .u8 (x : Int)] = some (zrA (F.nan, x) (F.nan, x)) := by
  rw [run_k G T J.J.ref11_nothing]
  have h1 := ref03_None J F
  simp only [zrA]
  repeat' (first | (simp (maxSteps := 1000000) only [seval, evB, exB, c_ref11_nothing, h1]) | (simp (maxSteps := 1000000) (disch := first | with_reducible assumption | omega) only [dxB]) | (simp only [kI_d, kG_dt, kG_df]; split) | (simp only [kI_v, kG_vt, kG_vf]; split))
theorem trn_side (F : Fm) (md : Int) {to : Nat} (ht : to = 0 ∨ to = F.inf false) {p r : Int × Bool} (hp : SdC p) (hr : SdC r) : trn F to (addW F md (bw F p) (bw F r)).1 = sideW F to (sP md p r) := by
  have hi := fm_i0 F
  obtain ⟨_, h⟩ := bw_add F md hp hr
  have z1 : F.cls 0 = 1 := (sgn_facts F false).2.2.1
  have z2 : F.cls (F.inf false) = 4 := cls_inf F false
  have m0 : F.min 0 = F.sgn true := by
    unfold Fm.min; rw [if_neg (by rw [z1]; decide)]; cases F <;> decide
  have m1 : F.min (F.inf false) = F.inf true := by
    unfold Fm.min; rw [if_neg (by rw [z2]; decide)]; cases F <;> decide
  have r0 : ∀ n, 0 % F.sg + F.sgn n = F.sgn n := fun n => by rw [Nat.zero_mod, Nat.zero_add]
  have r1 : ∀ n, F.inf false % F.sg + F.sgn n = F.inf n := fun n => by cases F <;> cases n <;> decide
  have s0 : F.sgn false = 0 := rfl
  unfold trn sideW
  rcases h with ⟨h1, h2, h3⟩ | ⟨h1, h2, h3⟩
  · have e0 : ¬ ((sP md p r).1 ≠ 0) := fun h => h h1
    rw [if_pos h2, h3]
    simp only [if_neg e0]
    cases (sP md p r).2
    · simp [s0]
    · simp [m0]
  · rw [if_neg h2, h3]
    simp only [if_pos h1]
    rcases ht with rfl | rfl
    · rw [r0]
      cases (sP md p r).2
      · simp [s0]
      · simp [m0]
    · rw [r1]
      cases (sP md p r).2
      · simp
      · simp [m1]
def apC (bs : List Blk) (f : List Nat) (b n : Nat) (o : Option Blk) (w : Option (List AV)) : Option (AV × Heap) :=
  match w with
  | some nw => match o with
    | some k => if k.dead = false ∧ f.contains b = false ∧ n * 1 ≤ k.cs.length ∧ (n + 1) * 2 ≤ boundBytes then some (.own bs.length 0 (n + 1) 1, ⟨bs.set b ⟨k.cs, true⟩ ++ [⟨k.cs.take (n * 1) ++ nw, false⟩], f⟩) else none
    | none => none
  | none => none
theorem ap1_x (bs : List Blk) (f : List Nat) (b n c : Nat) : appV ⟨bs, f⟩ 1 1 (.own b 0 n 1) (.own c 0 1 1) = apC bs f b n (bs[b]?) (subB (bs[c]?) 0 1) := by
  have h1 := rdBlk_x bs f c 0 1
  simp only [appV, sliceCells, if_true, Nat.one_mul, h1]
  cases subB (bs[c]?) 0 1 with
  | none => rfl
  | some nw =>
    simp only [Option.map_some, apC]
    cases bs[b]? with
    | none => rfl
    | some k => simp
theorem ap1_0 (bs : List Blk) (b : Nat) (cs nw : List AV) : apC bs [] b 0 (some ⟨cs, false⟩) (some nw) = some (.own bs.length 0 1 1, ⟨bs.set b ⟨cs, true⟩ ++ [⟨nw, false⟩], []⟩) := by
  simp [apC, boundBytes]
theorem ap1_1 (bs : List Blk) (b : Nat) (x1 : AV) (nw : List AV) : apC bs [] b 1 (some ⟨[x1], false⟩) (some nw) = some (.own bs.length 0 2 1, ⟨bs.set b ⟨[x1], true⟩ ++ [⟨x1 :: nw, false⟩], []⟩) := by
  simp [apC, boundBytes]
theorem rp2_0 (h : Mem) (x y : AV) (l : List AV) : rdAt G h 2 (.iptr (x :: y :: l) 0) = some [x, y] := by simp [rdAt]
theorem rp2_2 (h : Mem) (x y u v : AV) (l : List AV) : rdAt G h 2 (.iptr (x :: y :: u :: v :: l) 2) = some [u, v] := by simp [rdAt]
theorem sp_loop (e : Env) (h : Heap) : evL G T c_special_open_l1 e h = kS G T (evL G T c_special_open_b1 (keepE [0, 10, 27, 28, 29] e) h) c_special_open_l1 := s_loopc G T rfl e h
theorem eo_loop (e : Env) (h : Heap) : evL G T c_exact_open_l1 e h = kS G T (evL G T c_exact_open_b1 (keepE [0, 21, 22, 23] e) h) c_exact_open_l1 := s_loopc G T rfl e h
theorem word_Good (J : Al G T g) (F : Fm) {w : Nat} (hw : w < 18446744073709551616) : run G T 312 [.int .u8 F.u, .int .u64 (w : Int)] = some (.int .i64 (if w < 2 * F.sg then 0 else 6)) := by
  rw [run_k G T J.J.word_Good]
  have h1 := word_open1 J F hw
  generalize (if w < 2 * F.sg then (0 : Int) else 6) = e at *
  simp only [shA] at *
  repeat' (first | (simp (maxSteps := 1000000) only [seval, evB, exB, c_word_Good, h1]) | (simp (maxSteps := 1000000) (disch := first | with_reducible assumption | omega) only [dxB]) | (simp only [kI_d, kG_dt, kG_df]; split) | (simp only [kI_v, kG_vt, kG_vf]; split))
theorem pair_Good (J : Al G T g) (F : Fm) {a b : Nat} (ha : a < 18446744073709551616) (hb : b < 18446744073709551616) : run G T 304 [.int .u8 F.u, zA a b] = some (.int .i64 (if a < 2 * F.sg ∧ b < 2 * F.sg then 0 else 6)) := by
  rw [run_k G T J.J.pair_Good]
  have h1 := word_Good J F ha
  have h2 := word_Good J F hb
  simp only [zA]
  by_cases k1 : a < 2 * F.sg
  · rw [if_pos k1] at h1
    by_cases k2 : b < 2 * F.sg
    · rw [if_pos k2] at h2
      rw [if_pos ⟨k1, k2⟩]
      repeat' (first | (simp (maxSteps := 1000000) only [seval, evB, exB, c_pair_Good, h1, h2]) | (simp (maxSteps := 1000000) (disch := first | with_reducible assumption | omega) only [dxB]) | (simp only [kI_d, kG_dt, kG_df]; split) | (simp only [kI_v, kG_vt, kG_vf]; split))
    · rw [if_neg k2] at h2
      rw [if_neg (fun h => k2 h.2)]
      repeat' (first | (simp (maxSteps := 1000000) only [seval, evB, exB, c_pair_Good, h1, h2]) | (simp (maxSteps := 1000000) (disch := first | with_reducible assumption | omega) only [dxB]) | (simp only [kI_d, kG_dt, kG_df]; split) | (simp only [kI_v, kG_vt, kG_vf]; split))
  · rw [if_neg k1] at h1
    rw [if_neg (fun h => k1 h.1)]
    repeat' (first | (simp (maxSteps := 1000000) only [seval, evB, exB, c_pair_Good, h1]) | (simp (maxSteps := 1000000) (disch := first | with_reducible assumption | omega) only [dxB]) | (simp only [kI_d, kG_dt, kG_df]; split) | (simp only [kI_v, kG_vt, kG_vf]; split))
def im2 (a b c d : Nat) : AV := .imm 2 [.int .u64 (a : Int), .int .u64 (b : Int), .int .u64 (c : Int), .int .u64 (d : Int)]
theorem special_open2 (J : Al G T g) (F : Fm) {md : Int} (hm : 1 ≤ md ∧ md ≤ 5) {a b c d : Nat} (ha : a < 2 * F.sg) (hb : b < 2 * F.sg) (hc : c < 2 * F.sg) (hd : d < 2 * F.sg) :
    run G T 289 [.int .u8 F.u, .int .u8 md, im2 a b c d] = some (.tup [.imm 2 [.int .u8 (zcl (F.cls a) (F.cls b)), .int .u8 (zcl (F.cls c) (F.cls d))], .int .i64 0]) := by
  rw [run_k G T J.J.special_open]
  have o1 := round_Over J F hm (neg := false)
  have c1 := pair_Class J F ha hb
  have c2 := pair_Class J F hc hd
  generalize zcl (F.cls a) (F.cls b) = x at *
  generalize zcl (F.cls c) (F.cls d) = y at *
  simp only [zA, im2] at *
  repeat' (first | (simp (maxSteps := 1000000) only [seval, evB, exB, c_special_open, o1, c1, c2, sp_loop, c_special_open_b1, i2_20, i2_21, fa_i, rp2_0, rp2_2, ap1_0, ap1_1, wr_1, wr1, wr_2, wr2, ap1_x, List.set_cons_zero, List.set_cons_succ, List.cons_append, List.nil_append ]) | (simp (maxSteps := 1000000) (disch := first | with_reducible assumption | omega) only [dxB,  kM_int]) | (simp only [kI_d, kG_dt, kG_df]; split) | (simp only [kI_v, kG_vt, kG_vf]; split))
theorem special_open2_bad (J : Al G T g) (F : Fm) {md : Int} (hm : 1 ≤ md ∧ md ≤ 5) {a b c d : Nat} (ha : a < 18446744073709551616) (hb : b < 18446744073709551616) (hc : c < 18446744073709551616) (hd : d < 18446744073709551616)
    (h : ¬ ((a < 2 * F.sg ∧ b < 2 * F.sg) ∧ (c < 2 * F.sg ∧ d < 2 * F.sg))) : run G T 289 [.int .u8 F.u, .int .u8 md, im2 a b c d] = some (.tup [.nil, .int .i64 6]) := by
  rw [run_k G T J.J.special_open]
  have o1 := round_Over J F hm (neg := false)
  by_cases k : a < 2 * F.sg ∧ b < 2 * F.sg
  · have c1 := pair_Class J F k.1 k.2
    have c2 := pair_Class_bad J F hc hd (fun q => h ⟨k, q⟩)
    generalize zcl (F.cls a) (F.cls b) = x at *
    simp only [zA, im2] at *
    repeat' (first | (simp (maxSteps := 1000000) only [seval, evB, exB, c_special_open, o1, c1, c2, sp_loop, c_special_open_b1, i2_20, i2_21, fa_i, rp2_0, rp2_2, ap1_0, ap1_1, wr_1, wr1, wr_2, wr2, ap1_x, List.set_cons_zero, List.set_cons_succ, List.cons_append, List.nil_append ]) | (simp (maxSteps := 1000000) (disch := first | with_reducible assumption | omega) only [dxB,  kM_int]) | (simp only [kI_d, kG_dt, kG_df]; split) | (simp only [kI_v, kG_vt, kG_vf]; split))
  · have c1 := pair_Class_bad J F ha hb k
    simp only [zA, im2] at *
    repeat' (first | (simp (maxSteps := 1000000) only [seval, evB, exB, c_special_open, o1, c1, sp_loop, c_special_open_b1, i2_20, i2_21, fa_i, rp2_0, rp2_2, ap1_0, ap1_1, wr_1, wr1, wr_2, wr2, ap1_x, List.set_cons_zero, List.set_cons_succ, List.cons_append, List.nil_append ]) | (simp (maxSteps := 1000000) (disch := first | with_reducible assumption | omega) only [dxB,  kM_int]) | (simp only [kI_d, kG_dt, kG_df]; split) | (simp only [kI_v, kG_vt, kG_vf]; split))
theorem special_open_mode (J : Al G T g) (F : Fm) {md : Int} (h : ¬ (1 ≤ md ∧ md ≤ 5)) {v : AV} : run G T 289 [.int .u8 F.u, .int .u8 md, v] = some (.tup [.nil, .int .i64 5]) := by
  rw [run_k G T J.J.special_open]
  have o1 := round_Over_mode J F (m := md) (by omega) (neg := false)
  repeat' (first | (simp (maxSteps := 1000000) only [seval, evB, exB, c_special_open, o1]) | (simp (maxSteps := 1000000) (disch := first | with_reducible assumption | omega) only [dxB]) | (simp only [kI_d, kG_dt, kG_df]; split) | (simp only [kI_v, kG_vt, kG_vf]; split))
theorem special_open_no (J : Al G T g) {f md : Int} (h : ¬ (f = 1 ∨ f = 2)) {v : AV} : run G T 289 [.int .u8 f, .int .u8 md, v] = some (.tup [.nil, .int .i64 4]) := by
  rw [run_k G T J.J.special_open]
  have o1 := round_Over_no J h (m := md) (neg := false)
  repeat' (first | (simp (maxSteps := 1000000) only [seval, evB, exB, c_special_open, o1]) | (simp (maxSteps := 1000000) (disch := first | with_reducible assumption | omega) only [dxB]) | (simp only [kI_d, kG_dt, kG_df]; split) | (simp only [kI_v, kG_vt, kG_vf]; split))
theorem exact_open2 (J : Al G T g) (F : Fm) {md : Int} (hm : 1 ≤ md ∧ md ≤ 5) {a b c d : Nat} (ha : a < 18446744073709551616) (hb : b < 18446744073709551616) (hc : c < 18446744073709551616) (hd : d < 18446744073709551616) :
    run G T 286 [.int .u8 F.u, .int .u8 md, im2 a b c d] = some (.int .i64 (if (a < 2 * F.sg ∧ b < 2 * F.sg) ∧ (c < 2 * F.sg ∧ d < 2 * F.sg) then 0 else 6)) := by
  rw [run_k G T J.J.exact_open]
  have o1 := round_Over J F hm (neg := false)
  have c1 := pair_Good J F ha hb
  have c2 := pair_Good J F hc hd
  simp only [zA, im2] at *
  by_cases k : a < 2 * F.sg ∧ b < 2 * F.sg
  · rw [if_pos k] at c1
    by_cases q : c < 2 * F.sg ∧ d < 2 * F.sg
    · rw [if_pos q] at c2
      rw [if_pos ⟨k, q⟩]
      repeat' (first | (simp (maxSteps := 1000000) only [seval, evB, exB, c_exact_open, o1, c1, c2, eo_loop, c_exact_open_b1, i2_20, i2_21, fa_i, rp2_0, rp2_2, wr_1, wr1, wr_2, wr2]) | (simp (maxSteps := 1000000) (disch := first | with_reducible assumption | omega) only [dxB]) | (simp only [kI_d, kG_dt, kG_df]; split) | (simp only [kI_v, kG_vt, kG_vf]; split))
    · rw [if_neg q] at c2
      rw [if_neg (fun h => q h.2)]
      repeat' (first | (simp (maxSteps := 1000000) only [seval, evB, exB, c_exact_open, o1, c1, c2, eo_loop, c_exact_open_b1, i2_20, i2_21, fa_i, rp2_0, rp2_2, wr_1, wr1, wr_2, wr2]) | (simp (maxSteps := 1000000) (disch := first | with_reducible assumption | omega) only [dxB]) | (simp only [kI_d, kG_dt, kG_df]; split) | (simp only [kI_v, kG_vt, kG_vf]; split))
  · rw [if_neg k] at c1
    rw [if_neg (fun h => k h.1)]
    repeat' (first | (simp (maxSteps := 1000000) only [seval, evB, exB, c_exact_open, o1, c1, eo_loop, c_exact_open_b1, i2_20, i2_21, fa_i, rp2_0, rp2_2, wr_1, wr1, wr_2, wr2]) | (simp (maxSteps := 1000000) (disch := first | with_reducible assumption | omega) only [dxB]) | (simp only [kI_d, kG_dt, kG_df]; split) | (simp only [kI_v, kG_vt, kG_vf]; split))
end Go.Cv
