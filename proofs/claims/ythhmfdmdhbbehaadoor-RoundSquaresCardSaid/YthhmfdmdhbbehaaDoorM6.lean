/-
  A part of the proof of the statements of this seat (texts that the law's own text leans on): no condition.
-/
import Derived.Test.YthhmfdmdhbbehaaDoorM5
set_option linter.unusedVariables false
set_option linter.unusedSimpArgs false
/-
  The statement on squares and products of words.
-/
namespace Go.Cv
variable {G : Nat → Option (List AV)} {T : Tbl} {g : Nat}

theorem blen_mulT {x y a b : Nat} (hx : blen x ≤ a) (hy : blen y ≤ b) : blen (x * y) ≤ a + b := by
  refine blen_le.2 ?_
  rw [Nat.pow_add]
  exact Nat.mul_lt_mul_of_lt_of_lt (blen_le.1 hx) (blen_le.1 hy)
theorem mkD_odd {n : Bool} {m : Nat} {e : Int} (h : m % 2 = 1) : mkD n m e = ⟨n, m, e⟩ := by
  rw [mkD_pos (by omega), tz_odd h, Nat.pow_zero, Nat.div_one]; simp
theorem mkD_oddp {n : Bool} {m : Nat} {e : Int} (h : m % 2 = 1) (j : Nat) : mkD n (m * 2 ^ j) (e - j) = ⟨n, m, e⟩ := by
  have hp := Nat.two_pow_pos j
  have h0 : m * 2 ^ j ≠ 0 := by
    intro hc
    rcases Nat.mul_eq_zero.1 hc with h1 | h1 <;> omega
  rw [mkD_pos h0, tz_unique h, Nat.mul_div_cancel _ hp, show e - (j : Int) + j = e by omega]
theorem mkD_ff (m : Nat) (e : Int) : (mkD false m e).n = false := by unfold mkD; split <;> rfl
theorem odd_mul {a b : Nat} (ha : a % 2 = 1) (hb : b % 2 = 1) : a * b % 2 = 1 := by rw [Nat.mul_mod, ha, hb]

theorem root_sq (F : Fm) (md : Int) {n : Bool} {m : Nat} {e : Int} (ho : m % 2 = 1) : rootW F md (mkD n (m * m) (e + e)) = rndW F md ⟨false, m, e⟩ := by
  have hF := fm_fr F
  rw [mkD_odd (odd_mul ho ho)]
  unfold rootW
  have hP : rootP (e + e) = 130 := by unfold rootP; omega
  simp only
  rw [hP]
  have hX : m * m * 2 ^ 130 = m * 2 ^ 65 * (m * 2 ^ 65) := by rw [mul_self_shift]
  obtain ⟨r1, r2⟩ := isq_spec (m * m * 2 ^ 130)
  have hr : isq (m * m * 2 ^ 130) = m * 2 ^ 65 := by
    refine root_uniq r1 r2 (Nat.le_of_eq hX.symm) ?_
    rw [hX]; exact Nat.mul_lt_mul_of_lt_of_le (Nat.lt_succ_self _) (Nat.le_succ _) (Nat.succ_pos _)
  rw [hr, ← hX, decide_eq_true rfl, show (e + e - ((130 : Nat) : Int)) / 2 = e - ((65 : Nat) : Int) by omega]
  have hm0 : m ≠ 0 := by omega
  have hb := blen_mul hm0 65
  have h1 := rndW_mk F md false (M := m * 2 ^ 65) (e - ((65 : Nat) : Int)) (by omega)
  rw [mkD_oddp ho] at h1
  rw [h1]; rfl

theorem quo_prod (F : Fm) (md : Int) {n n' : Bool} {m m' : Nat} {e e' : Int} (ho : m % 2 = 1) (ho' : m' % 2 = 1) : quoW F md (mkD (n != n') (m * m') (e + e')) ⟨n', m', e'⟩ = rndW F md ⟨n, m, e⟩ := by
  have hF := fm_fr F
  rw [mkD_odd (odd_mul ho ho')]
  unfold quoW
  simp only
  have hq := quo_blen (k := 64) (a := m * m') (b := m') (by have := odd_mul ho ho'; omega) (by omega)
  generalize quoN 64 (m * m') m' = N at *
  have e1 : m * m' * 2 ^ N = m * 2 ^ N * m' := by rw [Nat.mul_assoc, Nat.mul_assoc, Nat.mul_comm m']
  rw [e1, Nat.mul_div_cancel _ (by omega), Nat.mul_mod_left]
  rw [e1, Nat.mul_div_cancel _ (by omega)] at hq
  have h1 := rndW_mk F md n (M := m * 2 ^ N) (e - N) (by omega)
  rw [mkD_oddp ho] at h1
  rw [h1, show e + e' - e' - (N : Int) = e - N by omega]
  cases n <;> cases n' <;> rfl

theorem val_sgn (F : Fm) {s : Nat} (n : Bool) (h : s < F.sg) : (F.val (s + F.sgn n)).m = (F.val s).m ∧ (F.val (s + F.sgn n)).e = (F.val s).e := by
  obtain ⟨e1, e2⟩ := sgn_mod n h
  have e3 : s % F.sg = s := Nat.mod_eq_of_lt h
  unfold Fm.val Fm.ex Fm.fc
  rw [e1, e3]
  split <;> (unfold mkD; split <;> exact ⟨rfl, rfl⟩)

/-- A word's value, its size, and what it is rounded to. -/
theorem val_abs (F : Fm) (m : Int) {w : Nat} (h : w < 2 * F.sg) (hf : F.fin w) : (((F.val w).m = 0 ∧ (w = 0 ∨ w = F.sg)) ∨ ((F.val w).m % 2 = 1 ∧ w ≠ 0 ∧ w ≠ F.sg)) ∧ ((F.val w).m ≠ 0 → rndW F m ⟨false, (F.val w).m, (F.val w).e⟩ = (w % F.sg, 0)) := by
  obtain ⟨s, n, hw, h1, h2, h3⟩ := word_parts h
  have hi := fm_i0 F
  have h4 := h2 hf
  obtain ⟨e1, e2⟩ := sgn_mod (F := F) n h1
  have hNz : Nz (F.val w) := by unfold Fm.val; split <;> exact Nz_mk _ _ _
  by_cases h0 : s = 0
  · subst h0
    have hz : (F.val w).m = 0 := by rw [hw, val_zero]
    refine ⟨Or.inl ⟨hz, ?_⟩, fun h => absurd hz h⟩
    rw [hw]
    cases n
    · left; rfl
    · right; rw [Nat.zero_add]; rfl
  · have r1 := round_val F m n h4 h0
    have r2 := round_val F m false h4 h0
    have hm : (F.val w).m ≠ 0 := by rw [hw]; exact r1.2
    refine ⟨Or.inr ⟨hNz.2 hm, ?_, ?_⟩, fun _ => ?_⟩
    · omega
    · intro hc; exact h0 (h3.1 hc).1
    · obtain ⟨v1, v2⟩ := val_sgn F n h1
      have hs : s + F.sgn false = s := rfl
      rw [hs] at r2
      have hn : (F.val s).n = false := by
        have hg := (sgn_mod (F := F) false h1).2
        rw [hs] at hg
        unfold Fm.val
        rw [hg]
        split <;> exact mkD_ff _ _
      have hval : F.val s = ⟨false, (F.val s).m, (F.val s).e⟩ := by rw [← hn]
      rw [hw, v1, v2, ← hval, r2.1, e1]

set_option maxHeartbeats 4000000 in
theorem law04_RoundSquares (hA : HasA g T) (hB : HasB g T) (hC : HasC g T) (hG : Glob G g) (hD : HasD g T) (hE : HasE g T) (hT : HasF g T) (hK : run G T 5 [] = some (.bool true))
    {f m : Int} {v w : Nat} (hv : v < 18446744073709551616) (hw : w < 18446744073709551616) :
    run G T 145 [.int .u8 f, .int .u8 m, .int .u64 (v : Int), .int .u64 (w : Int)] = some (.bool true) := by
  rw [run_k G T hT.law04_RoundSquares]
  have o0 := law04_opens0 (G := G) (T := T) hD hE (f := f) (m := m)
  by_cases hop : op0 f m = 0
  · obtain ⟨a, b⟩ := op0_iff.1 hop
    obtain ⟨F, rfl⟩ := fm_of a
    rw [hop] at o0
    have gv := ref03_Good (G := G) (T := T) hD hT F hv
    have gw := ref03_Good (G := G) (T := T) hD hT F hw
    have fv := ref03_Finite (G := G) (T := T) hD hT F hv
    have fw := ref03_Finite (G := G) (T := T) hD hT F hw
    by_cases hv2 : v < 2 * F.sg
    · rw [if_pos hv2] at gv
      by_cases hw2 : w < 2 * F.sg
      · rw [if_pos hw2] at gw
        by_cases hfv : F.fin v
        · rw [decide_eq_true hfv] at fv
          by_cases hfw : F.fin w
          · rw [decide_eq_true hfw] at fw
            obtain ⟨z1, V⟩ := ref03_Value (G := G) (T := T) hA hB hC hD hT F hv hfv
            obtain ⟨z2, W⟩ := ref03_Value (G := G) (T := T) hA hB hC hD hT F hw hfw
            have bv := Bd_val F hfv
            have bw := Bd_val F hfw
            obtain ⟨av, av2⟩ := val_abs F m hv2 hfv
            obtain ⟨aw, aw2⟩ := val_abs F m hw2 hfw
            have vf := val_facts F m hv2 hfv
            have hi := fm_i0 F
            have dv := mayD_val F hfv
            have dw := mayD_val F hfw
            have sg := ref03_Sign (G := G) (T := T) hD F
            have sw := ref02_Sign (G := G) (T := T) hC (z := z2) (d := F.val w)
            have w1 : (v : Int) % (F.sg : Int) = ((v % F.sg : Nat) : Int) := rfl
            have w2 : (v : Int).tmod (F.sg : Int) = ((v % F.sg : Nat) : Int) := rfl
            have hsg0 : ¬ (F.sg : Int) = 0 := by have := hi.2.2.1; omega
            have bm : ∀ {x y : Dy}, Bd x 4096 → Bd y 4096 → blen (x.m * y.m) ≤ 8192 := fun {x y} hx hy => by
              have := blen_mulT hx.bl hy.bl; omega
            have hl1 := dl_len_blen (F.val v).m
            have hl2 := dl_len_blen (F.val w).m
            have hx1 := bv.bl
            have hx2 := bv.lo
            have hx3 := bv.hi
            have hy1 := bw.bl
            have hy2 := bw.lo
            have hy3 := bw.hi
            obtain ⟨z3, M1⟩ := ref02_Mul (G := G) (T := T) hB hC hT (z := z1) (y := z1) (a := F.val v) (b := F.val v) (by omega) (by omega) (by omega) (by omega)
            obtain ⟨z4, M2⟩ := ref02_Mul (G := G) (T := T) hB hC hT (z := z1) (y := z2) (a := F.val v) (b := F.val w) (by omega) (by omega) (by omega) (by omega)
            have b1 := bm bv bv
            have b2 := bm bv bw
            have my : ∀ {x y : Dy}, blen (x.m * y.m) ≤ 8192 → Bd x 4096 → Bd y 4096 → mayD (mkD (x.n != y.n) (x.m * y.m) (x.e + y.e)).n (dl (mkD (x.n != y.n) (x.m * y.m) (x.e + y.e)).m) (mkD (x.n != y.n) (x.m * y.m) (x.e + y.e)).e = true := fun {x y} h hx hy => by
              have l1 := hx.lo
              have l2 := hx.hi
              have l3 := hy.lo
              have l4 := hy.hi
              refine mayD_mk (by omega) ?_
              by_cases h0 : x.m * y.m = 0
              · exact Or.inl h0
              · right; have := tz_blen h0; omega
            have m1 := my b1 bv bv
            have m2 := my b2 bv bw
            have ref := law04_refused (G := G) (T := T) hE (w := 0) (x := 0) (e := 11) (e' := 11)
            simp only [and_self, decide_true] at ref
            clear bm my hl1 hl2
            -- the root
            have R1 : run G T 18 [.int .u8 F.u, .int .u8 m, DyA z3 (mkD ((F.val v).n != (F.val v).n) ((F.val v).m * (F.val v).m) ((F.val v).e + (F.val v).e))] = some (.tup [.int .u64 ((v % F.sg : Nat) : Int), .int .u8 0, .int .i64 0]) := by
              rcases av with ⟨h0, h1⟩ | ⟨h0, h1⟩
              · rw [round_Root_zero (G := G) (T := T) hA hC hE F b (z := z3) m1 (by rw [h0]; rfl)]
                have : v % F.sg = 0 := by
                  rcases h1 with h1 | h1
                  · rw [h1]; exact Nat.zero_mod _
                  · rw [h1]; exact Nat.mod_self _
                rw [this]; rfl
              · have ho := odd_mul h0 h0
                have hn : (mkD ((F.val v).n != (F.val v).n) ((F.val v).m * (F.val v).m) ((F.val v).e + (F.val v).e)).n = false := by
                  rw [mkD_n (by omega)]; cases (F.val v).n <;> rfl
                have := round_Root (G := G) (T := T) hA hC hG hD hE F b (z := z3) m1 (by rw [mkD_odd ho]; simp only; omega) hn
                rw [root_sq F m h0, av2 (by omega)] at this
                exact this
            -- the quotient
            have hsz : ((F.val w).m = 0 ∧ sgnD (F.val w) = 0) ∨ ((F.val w).m ≠ 0 ∧ ¬ sgnD (F.val w) = 0) := by
              by_cases h0 : (F.val w).m = 0
              · left; exact ⟨h0, by simp [sgnD, h0]⟩
              · right; refine ⟨h0, ?_⟩; simp only [sgnD, if_neg h0]; split <;> decide
            rcases hsz with ⟨q0, q1⟩ | ⟨q0, q1⟩
            · have R2 := round_Quo_zero (G := G) (T := T) hA hC hE F b (z := z4) (y := z2) (a := mkD ((F.val v).n != (F.val w).n) ((F.val v).m * (F.val w).m) ((F.val v).e + (F.val w).e)) (b := F.val w) m2 dw (Or.inr q0)
              rw [if_pos q0] at R2
              rw [q1] at sw
              clear av aw av2 aw2 vf hi m1 m2 dv dw bv bw
              generalize mkD ((F.val v).n != (F.val w).n) ((F.val v).m * (F.val w).m) ((F.val v).e + (F.val w).e) = d2 at *
              generalize mkD ((F.val v).n != (F.val v).n) ((F.val v).m * (F.val v).m) ((F.val v).e + (F.val v).e) = d1 at *
              simp only [DyA, A3] at *
              repeat' (first | (simp (maxSteps := 1000000) only [evB, if_true, if_false, ne_eq, Nat.reduceEqDiff, Nat.reduceAdd, reduceCtorEq, Int.reduceLE, Int.reduceLT, Int.reduceEq, Int.reduceNeg, Int.reduceToNat, Int.reducePow, Int.reduceMod, Int.reduceDiv, Int.reduceSub, Int.reduceAdd, Int.reduceMul, Nat.reduceMul, Nat.reduceSub, Nat.reducePow, exB, resC_ptr, res_cell, nilb, nilf, faddr_p, c_law04_RoundSquares, o0, gv, gw, fv, fw, V, W, M1, R1, sg, w1, w2, hsg0, M2, R2, sw, ref, hK ]) | (simp (maxSteps := 1000000) (disch := first | with_reducible assumption | omega) only [wrap_i64, iaddr_D, rd_iptr, toNat_sub_one, toNat_add_one, sl_hi, sl_lo, iaddr_own, kM_new, sub_cells, setO_cells, sub_pre, ct_fz1, dec_t, dec_f, bv_t, bv_f, tmod_nn, tdiv_nn, bin_shl, bin_shr,  bin_rem]) | (simp only [kI_d, kG_dt, kG_df]; split) | (simp only [kI_v, kG_vt, kG_vf]; split))
            · have R2 : run G T 15 [.int .u8 F.u, .int .u8 m, DyA z4 (mkD ((F.val v).n != (F.val w).n) ((F.val v).m * (F.val w).m) ((F.val v).e + (F.val w).e)), DyA z2 (F.val w)] = some (.tup [.int .u64 (((if v = F.sg then 0 else v) : Nat) : Int), .int .u8 0, .int .i64 0]) := by
                have how : (F.val w).m % 2 = 1 := by
                  rcases aw with ⟨h0, _⟩ | ⟨h0, _⟩
                  · exact absurd h0 q0
                  · exact h0
                rcases av with ⟨h0, h1⟩ | ⟨h0, h1⟩
                · have := round_Quo_zero (G := G) (T := T) hA hC hE F b (z := z4) (y := z2) (a := mkD ((F.val v).n != (F.val w).n) ((F.val v).m * (F.val w).m) ((F.val v).e + (F.val w).e)) (b := F.val w) m2 dw (Or.inl (by rw [h0, Nat.zero_mul]; rfl))
                  rw [if_neg q0] at this
                  rw [this]
                  have hz : (if v = F.sg then 0 else v) = 0 := by
                    rcases h1 with h1 | h1
                    · rw [h1]; split <;> rfl
                    · rw [if_pos h1]
                  rw [hz]; rfl
                · have ho := odd_mul h0 how
                  have hQ : quoN 64 ((F.val v).m * (F.val w).m) (F.val w).m = 64 + 1 + blen (F.val w).m - blen ((F.val v).m * (F.val w).m) := rfl
                  have := round_Quo (G := G) (T := T) hA hC hG hD hE F b (z := z4) (y := z2) (a := mkD ((F.val v).n != (F.val w).n) ((F.val v).m * (F.val w).m) ((F.val v).e + (F.val w).e)) (b := F.val w) m2 dw (by rw [mkD_odd ho]; simp only; omega) q0 (by rw [mkD_odd ho]; simp only; omega)
                  have hqp := quo_prod F m (n := (F.val v).n) (n' := (F.val w).n) (e := (F.val v).e) (e' := (F.val w).e) h0 how
                  rw [show (⟨(F.val w).n, (F.val w).m, (F.val w).e⟩ : Dy) = F.val w from rfl, show (⟨(F.val v).n, (F.val v).m, (F.val v).e⟩ : Dy) = F.val v from rfl, vf] at hqp
                  rw [hqp] at this
                  exact this
              clear av aw av2 aw2 vf hi m1 m2 dv dw bv bw
              generalize mkD ((F.val v).n != (F.val w).n) ((F.val v).m * (F.val w).m) ((F.val v).e + (F.val w).e) = d2 at *
              generalize mkD ((F.val v).n != (F.val v).n) ((F.val v).m * (F.val v).m) ((F.val v).e + (F.val v).e) = d1 at *
              by_cases hvs : v = F.sg
              · rw [if_pos hvs, cast0] at R2
                subst hvs
                simp only [DyA, A3] at *
                repeat' (first | (simp (maxSteps := 1000000) only [evB, if_true, if_false, ne_eq, Nat.reduceEqDiff, Nat.reduceAdd, reduceCtorEq, Int.reduceLE, Int.reduceLT, Int.reduceEq, Int.reduceNeg, Int.reduceToNat, Int.reducePow, Int.reduceMod, Int.reduceDiv, Int.reduceSub, Int.reduceAdd, Int.reduceMul, Nat.reduceMul, Nat.reduceSub, Nat.reducePow, exB, resC_ptr, res_cell, nilb, nilf, faddr_p, c_law04_RoundSquares, o0, gv, gw, fv, fw, V, W, M1, R1, sg, w1, w2, hsg0, M2, R2, sw, q1, hK ]) | (simp (maxSteps := 1000000) (disch := first | with_reducible assumption | omega) only [wrap_i64, iaddr_D, rd_iptr, toNat_sub_one, toNat_add_one, sl_hi, sl_lo, iaddr_own, kM_new, sub_cells, setO_cells, sub_pre, ct_fz1, dec_t, dec_f, bv_t, bv_f, tmod_nn, tdiv_nn, bin_shl, bin_shr,  bin_rem]) | (simp only [kI_d, kG_dt, kG_df]; split) | (simp only [kI_v, kG_vt, kG_vf]; split))
              · rw [if_neg hvs] at R2
                have hvi : ¬ (v : Int) = (F.sg : Int) := by omega
                simp only [DyA, A3] at *
                repeat' (first | (simp (maxSteps := 1000000) only [evB, if_true, if_false, ne_eq, Nat.reduceEqDiff, Nat.reduceAdd, reduceCtorEq, Int.reduceLE, Int.reduceLT, Int.reduceEq, Int.reduceNeg, Int.reduceToNat, Int.reducePow, Int.reduceMod, Int.reduceDiv, Int.reduceSub, Int.reduceAdd, Int.reduceMul, Nat.reduceMul, Nat.reduceSub, Nat.reducePow, exB, resC_ptr, res_cell, nilb, nilf, faddr_p, c_law04_RoundSquares, o0, gv, gw, fv, fw, V, W, M1, R1, sg, w1, w2, hsg0, M2, R2, sw, q1, hvi, hK ]) | (simp (maxSteps := 1000000) (disch := first | with_reducible assumption | omega) only [wrap_i64, iaddr_D, rd_iptr, toNat_sub_one, toNat_add_one, sl_hi, sl_lo, iaddr_own, kM_new, sub_cells, setO_cells, sub_pre, ct_fz1, dec_t, dec_f, bv_t, bv_f, tmod_nn, tdiv_nn, bin_shl, bin_shr,  bin_rem]) | (simp only [kI_d, kG_dt, kG_df]; split) | (simp only [kI_v, kG_vt, kG_vf]; split))
          · rw [decide_eq_false hfw] at fw
            repeat' (first | (simp (maxSteps := 1000000) only [evB, if_true, if_false, ne_eq, Nat.reduceEqDiff, Nat.reduceAdd, reduceCtorEq, Int.reduceLE, Int.reduceLT, Int.reduceEq, Int.reduceNeg, Int.reduceToNat, Int.reducePow, Int.reduceMod, Int.reduceDiv, Int.reduceSub, Int.reduceAdd, Int.reduceMul, Nat.reduceMul, Nat.reduceSub, Nat.reducePow, exB, resC_ptr, res_cell, nilb, nilf, faddr_p, c_law04_RoundSquares, o0, gv, gw, fv, fw, hK]) | (simp (maxSteps := 1000000) (disch := first | with_reducible assumption | omega) only [wrap_i64, iaddr_D, rd_iptr, toNat_sub_one, toNat_add_one, sl_hi, sl_lo, iaddr_own, kM_new, sub_cells, setO_cells, sub_pre, ct_fz1, dec_t, dec_f, bv_t, bv_f, tmod_nn, tdiv_nn, bin_shl, bin_shr]) | (simp only [kI_d, kG_dt, kG_df]; split) | (simp only [kI_v, kG_vt, kG_vf]; split))
        · rw [decide_eq_false hfv] at fv
          repeat' (first | (simp (maxSteps := 1000000) only [evB, if_true, if_false, ne_eq, Nat.reduceEqDiff, Nat.reduceAdd, reduceCtorEq, Int.reduceLE, Int.reduceLT, Int.reduceEq, Int.reduceNeg, Int.reduceToNat, Int.reducePow, Int.reduceMod, Int.reduceDiv, Int.reduceSub, Int.reduceAdd, Int.reduceMul, Nat.reduceMul, Nat.reduceSub, Nat.reducePow, exB, resC_ptr, res_cell, nilb, nilf, faddr_p, c_law04_RoundSquares, o0, gv, gw, fv, hK]) | (simp (maxSteps := 1000000) (disch := first | with_reducible assumption | omega) only [wrap_i64, iaddr_D, rd_iptr, toNat_sub_one, toNat_add_one, sl_hi, sl_lo, iaddr_own, kM_new, sub_cells, setO_cells, sub_pre, ct_fz1, dec_t, dec_f, bv_t, bv_f, tmod_nn, tdiv_nn, bin_shl, bin_shr]) | (simp only [kI_d, kG_dt, kG_df]; split) | (simp only [kI_v, kG_vt, kG_vf]; split))
      · rw [if_neg hw2] at gw
        repeat' (first | (simp (maxSteps := 1000000) only [evB, if_true, if_false, ne_eq, Nat.reduceEqDiff, Nat.reduceAdd, reduceCtorEq, Int.reduceLE, Int.reduceLT, Int.reduceEq, Int.reduceNeg, Int.reduceToNat, Int.reducePow, Int.reduceMod, Int.reduceDiv, Int.reduceSub, Int.reduceAdd, Int.reduceMul, Nat.reduceMul, Nat.reduceSub, Nat.reducePow, exB, resC_ptr, res_cell, nilb, nilf, faddr_p, c_law04_RoundSquares, o0, gv, gw, hK]) | (simp (maxSteps := 1000000) (disch := first | with_reducible assumption | omega) only [wrap_i64, iaddr_D, rd_iptr, toNat_sub_one, toNat_add_one, sl_hi, sl_lo, iaddr_own, kM_new, sub_cells, setO_cells, sub_pre, ct_fz1, dec_t, dec_f, bv_t, bv_f, tmod_nn, tdiv_nn, bin_shl, bin_shr]) | (simp only [kI_d, kG_dt, kG_df]; split) | (simp only [kI_v, kG_vt, kG_vf]; split))
    · rw [if_neg hv2] at gv
      repeat' (first | (simp (maxSteps := 1000000) only [evB, if_true, if_false, ne_eq, Nat.reduceEqDiff, Nat.reduceAdd, reduceCtorEq, Int.reduceLE, Int.reduceLT, Int.reduceEq, Int.reduceNeg, Int.reduceToNat, Int.reducePow, Int.reduceMod, Int.reduceDiv, Int.reduceSub, Int.reduceAdd, Int.reduceMul, Nat.reduceMul, Nat.reduceSub, Nat.reducePow, exB, resC_ptr, res_cell, nilb, nilf, faddr_p, c_law04_RoundSquares, o0, gv, hK]) | (simp (maxSteps := 1000000) (disch := first | with_reducible assumption | omega) only [wrap_i64, iaddr_D, rd_iptr, toNat_sub_one, toNat_add_one, sl_hi, sl_lo, iaddr_own, kM_new, sub_cells, setO_cells, sub_pre, ct_fz1, dec_t, dec_f, bv_t, bv_f, tmod_nn, tdiv_nn, bin_shl, bin_shr]) | (simp only [kI_d, kG_dt, kG_df]; split) | (simp only [kI_v, kG_vt, kG_vf]; split))
  · repeat' (first | (simp (maxSteps := 1000000) only [evB, if_true, if_false, ne_eq, Nat.reduceEqDiff, Nat.reduceAdd, reduceCtorEq, Int.reduceLE, Int.reduceLT, Int.reduceEq, Int.reduceNeg, Int.reduceToNat, Int.reducePow, Int.reduceMod, Int.reduceDiv, Int.reduceSub, Int.reduceAdd, Int.reduceMul, Nat.reduceMul, Nat.reduceSub, Nat.reducePow, exB, resC_ptr, res_cell, nilb, nilf, faddr_p, c_law04_RoundSquares, o0, hop, hK]) | (simp (maxSteps := 1000000) (disch := first | with_reducible assumption | omega) only [wrap_i64, iaddr_D, rd_iptr, toNat_sub_one, toNat_add_one, sl_hi, sl_lo, iaddr_own, kM_new, sub_cells, setO_cells, sub_pre, ct_fz1, dec_t, dec_f, bv_t, bv_f, tmod_nn, tdiv_nn, bin_shl, bin_shr]) | (simp only [kI_d, kG_dt, kG_df]; split) | (simp only [kI_v, kG_vt, kG_vf]; split))
end Go.Cv
