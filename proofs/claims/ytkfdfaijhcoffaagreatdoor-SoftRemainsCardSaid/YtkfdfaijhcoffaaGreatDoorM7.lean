/-
  A part of the proof of the statements of this seat (texts that the law's own text leans on): no condition.
-/
import Derived.Test.YtkfdfaijhcoffaaGreatDoorM6
import Derived.Test.YtkfdfaijhcoffaaGreatDoorM5
import Derived.Test.YtkfdfaijhcoffaaGreatDoorM3
import Derived.Test.YtkfdfaijhcoffaaGreatDoorM4
set_option linter.unusedVariables false
set_option linter.unusedSimpArgs false
/-
  Products, column by column (in numbers).
-/
namespace Go.Cv

def cT (a b : List Nat) (k i : Nat) : Nat := if i ≤ k then dg a i * dg b (k - i) else 0
/-- The first terms of a column. -/
def cS (a b : List Nat) (k : Nat) : Nat → Nat
  | 0 => 0
  | i + 1 => cS a b k i + cT a b k i
/-- The first columns. -/
def cV (a b : List Nat) : Nat → Nat
  | 0 => 0
  | N + 1 => cV a b N + 4294967296 ^ N * cS a b N a.length

theorem dg_c0 (x : Nat) (a : List Nat) : dg (x :: a) 0 = x := by rw [dg_lt (by simp)]; rfl
theorem dg_cs (x : Nat) (a : List Nat) (i : Nat) : dg (x :: a) (i + 1) = dg a i := rfl

theorem cS_cons (x : Nat) (a b : List Nat) (k : Nat) : ∀ i, cS (x :: a) b k (i + 1) = x * dg b k + (if k = 0 then 0 else cS a b (k - 1) i)
  | 0 => by
    simp only [cS, cT, dg_c0, Nat.sub_zero, Nat.zero_le, if_true, Nat.zero_add]
    split <;> rfl
  | i + 1 => by
    rw [cS, cS_cons x a b k i, cT, dg_cs]
    by_cases h0 : k = 0
    · rw [if_pos h0, if_pos h0, if_neg (by omega)]
    · rw [if_neg h0, if_neg h0, cS, cT]
      by_cases h1 : i + 1 ≤ k
      · rw [if_pos h1, if_pos (by omega), show k - 1 - i = k - (i + 1) by omega, Nat.add_assoc]
      · rw [if_neg h1, if_neg (by omega)]; rfl

theorem cV_cons (x : Nat) (a b : List Nat) : ∀ N, cV (x :: a) b N = x * val (b.take N) + (if N = 0 then 0 else 4294967296 * cV a b (N - 1))
  | 0 => by simp [cV, val]
  | N + 1 => by
    rw [cV, cV_cons x a b N, List.length_cons, cS_cons, val_take_succ', if_neg (show ¬ N + 1 = 0 by omega), Nat.add_sub_cancel]
    by_cases h0 : N = 0
    · subst h0
      rw [if_pos rfl, if_pos rfl]; simp [cV, val]
    · obtain ⟨M, rfl⟩ : ∃ M, N = M + 1 := ⟨N - 1, by omega⟩
      rw [if_neg (show ¬ M + 1 = 0 by omega), if_neg (show ¬ M + 1 = 0 by omega), Nat.add_sub_cancel, cV]
      simp only [Nat.mul_add, Nat.pow_succ]
      generalize cV a b M = V
      generalize cS a b M a.length = S
      generalize val (b.take (M + 1)) = U
      generalize dg b (M + 1) = d
      generalize 4294967296 ^ M = p
      rw [Nat.mul_left_comm (p * 4294967296) x d, show p * 4294967296 * S = 4294967296 * (p * S) by rw [Nat.mul_comm p, Nat.mul_assoc]]
      omega

theorem cV_nil (b : List Nat) : ∀ N, cV [] b N = 0
  | 0 => rfl
  | N + 1 => by rw [cV, cV_nil b N, List.length_nil, cS, Nat.mul_zero]
theorem cV_eq (b : List Nat) : ∀ (a : List Nat) (N : Nat), a.length + b.length ≤ N → cV a b N = val a * val b
  | [], N, _ => by rw [val_nil, Nat.zero_mul, cV_nil]
  | x :: a, N, h => by
    rw [List.length_cons] at h
    rw [cV_cons, List.take_of_length_le (by omega), if_neg (by omega), cV_eq b a (N - 1) (by omega), val_cons, Nat.add_mul, Nat.mul_assoc]

theorem cS_low {a b : List Nat} {k : Nat} : ∀ {i : Nat}, i + b.length ≤ k + 1 → cS a b k i = 0
  | 0, _ => rfl
  | i + 1, h => by
    rw [cS, cS_low (by omega), cT]
    split
    · rw [dg_ge (l := b) (by omega), Nat.mul_zero]
    · rfl
theorem cS_top {a b : List Nat} {k : Nat} : ∀ j, cS a b k (k + 1 + j) = cS a b k (k + 1)
  | 0 => rfl
  | j + 1 => by rw [← Nat.add_assoc, cS, cS_top j, cT, if_neg (by omega)]; rfl
theorem cS_end (a b : List Nat) (k n : Nat) : cS a b k (min (k + 1) n) = cS a b k n := by
  rcases Nat.lt_or_ge n (k + 1) with h | h
  · rw [Nat.min_eq_right (by omega)]
  · rw [Nat.min_eq_left h]
    have := cS_top (a := a) (b := b) (k := k) (n - (k + 1))
    rw [show k + 1 + (n - (k + 1)) = n by omega] at this
    exact this.symm
theorem cT_lt {a b : List Nat} (ha : Dg a) (hb : Dg b) (k i : Nat) : cT a b k i < 18446744073709551616 := by
  unfold cT; split
  · have := mac_lt (ha.dg i) (hb.dg (k - i)) (show 0 < 4294967296 by decide) (show 0 < 4294967296 by decide); omega
  · decide
theorem cS_lt {a b : List Nat} (ha : Dg a) (hb : Dg b) (k : Nat) : ∀ i, cS a b k i ≤ i * 18446744073709551616
  | 0 => Nat.zero_le _
  | i + 1 => by
    have := cT_lt ha hb k i
    have := cS_lt ha hb k i
    rw [cS]; omega
/-- The accumulator, a column further. -/
theorem cV_step {V A L p k S : Nat} (h : L + p * A = V) : L + p * ((A + S) % 4294967296) + p * 4294967296 * ((A + S) / 4294967296) = V + p * S := by
  rw [Nat.mul_assoc, Nat.add_assoc, ← Nat.mul_add, Nat.mod_add_div, Nat.mul_add]; omega
end Go.Cv

/-
  Products: the document's.
-/
namespace Go.Cv
variable {G : Nat → Option (List AV)} {T : Tbl} {g : Nat}

theorem or_shl {a h : Nat} (ha : a < 4294967296) : orI .u64 (a : Int) ((h : Int) * 4294967296 % 18446744073709551616) = ((a + h % 4294967296 * 4294967296 : Nat) : Int) := by
  have e : (h : Int) * 4294967296 % 18446744073709551616 = ((h % 4294967296 * 4294967296 : Nat) : Int) := by omega
  rw [e, or64 (by omega) (by omega), show (4294967296 : Nat) = 2 ^ 32 from rfl, or_add (show a < 2 ^ 32 from ha)]

theorem Mul_inner {a b : List Nat} {z y : Bool} {k A : Nat} {v : AV} (ha : Dg a) (hb : Dg b) (hs : a.length < 1073741824) (hk : k < 2147483648) (hA : A < 1298074214633706907132624082305024) : ∀ (m i : Nat) (h : Heap) (low high : Nat),
    m + i = min (k + 1) a.length → k < b.length + i → low < 18446744073709551616 → low + 18446744073709551616 * high = A + cS a b k i →
    Post (evL G T c_ref01_Mul_l1 [(0, D z a), (1, D y b), (5, v), (6, .int .u64 (low : Int)), (7, .int .u64 (high : Int)), (8, .int .i64 (k : Int)), (10, .int .i64 (i : Int))] h) fun r =>
      ∃ e low' high', r = (.exit 2, (0, D z a) :: (1, D y b) :: (5, v) :: (6, .int .u64 ((low' : Nat) : Int)) :: (7, .int .u64 ((high' : Nat) : Int)) :: (8, .int .i64 (k : Int)) :: e, h) ∧ low' < 18446744073709551616 ∧ low' + 18446744073709551616 * high' = A + cS a b k a.length
  | 0, i, h, low, high, hm, hi, hl, he => by
    rw [s_loopc G T (c := c_ref01_Mul_l1) rfl]
    have hend := cS_end a b k a.length
    rw [show min (k + 1) a.length = i by omega] at hend
    rw [hend] at he
    by_cases h1 : (i : Int) ≤ (k : Int)
    · have h2 : ¬ (i : Int) < (a.length : Int) := by omega
      repeat (first | (simp (maxSteps := 1000000) only [evB, if_true, if_false, ne_eq, Nat.reduceEqDiff, Nat.reduceAdd, reduceCtorEq, Int.reduceLE, Int.reduceLT, Int.reduceEq, Int.reduceNeg, Int.reduceToNat, Int.reducePow, Int.reduceMod, Int.reduceDiv, Int.reduceSub, Int.reduceAdd, Int.reduceMul, Nat.reduceMul, Nat.reduceSub, Nat.reducePow, c_ref01_Mul_b1, h1, h2]) | (simp (disch := omega) only [dsB]))
      exact Post.some ⟨_, _, _, rfl, hl, he⟩
    · repeat (first | (simp (maxSteps := 1000000) only [evB, if_true, if_false, ne_eq, Nat.reduceEqDiff, Nat.reduceAdd, reduceCtorEq, Int.reduceLE, Int.reduceLT, Int.reduceEq, Int.reduceNeg, Int.reduceToNat, Int.reducePow, Int.reduceMod, Int.reduceDiv, Int.reduceSub, Int.reduceAdd, Int.reduceMul, Nat.reduceMul, Nat.reduceSub, Nat.reducePow, c_ref01_Mul_b1, h1]) | (simp (disch := omega) only [dsB]))
      exact Post.some ⟨_, _, _, rfl, hl, he⟩
  | m + 1, i, h, low, high, hm, hi, hl, he => by
    rw [s_loopc G T (c := c_ref01_Mul_l1) rfl]
    have h1 : (i : Int) ≤ (k : Int) := by omega
    have h2 : (i : Int) < (a.length : Int) := by omega
    have e7 : (i : Int) + 1 = ((i + 1 : Nat) : Int) := by omega
    have e8 : (k : Int) - (i : Int) = ((k - i : Nat) : Int) := by omega
    have hx := ha.dg i
    have hy := hb.dg (k - i)
    have hki : k - i < b.length := by omega
    have w1 : (dg a i : Int) % 18446744073709551616 = dg a i := by omega
    have w2 : (dg b (k - i) : Int) % 18446744073709551616 = dg b (k - i) := by omega
    have hM := mac_lt hx hy (show 0 < 4294967296 by decide) (show 0 < 4294967296 by decide)
    have hSb := cS_lt ha hb k i
    have w4 : (dg a i : Int) * (dg b (k - i) : Int) = ((dg a i * dg b (k - i) : Nat) : Int) := by rw [Int.natCast_mul]
    have hcs : cS a b k (i + 1) = cS a b k i + dg a i * dg b (k - i) := by rw [cS, cT, if_pos (by omega)]
    generalize dg a i * dg b (k - i) = p at *
    have w5 : (p : Int) % 18446744073709551616 = p := by omega
    by_cases hc : low + p < 18446744073709551616
    · have w6 : ((low : Int) + (p : Int)) % 18446744073709551616 = ((low + p : Nat) : Int) := by omega
      have w7 : ¬ ((low + p : Nat) : Int) < (p : Int) := by omega
      repeat (first | (simp (maxSteps := 1000000) only [evB, if_true, if_false, ne_eq, Nat.reduceEqDiff, Nat.reduceAdd, reduceCtorEq, Int.reduceLE, Int.reduceLT, Int.reduceEq, Int.reduceNeg, Int.reduceToNat, Int.reducePow, Int.reduceMod, Int.reduceDiv, Int.reduceSub, Int.reduceAdd, Int.reduceMul, Nat.reduceMul, Nat.reduceSub, Nat.reducePow, c_ref01_Mul_b1, h1, h2, e7, e8, w1, w2, w4, w5, w6, w7]) | (simp (disch := omega) only [dsB]))
      exact Mul_inner ha hb hs hk hA m (i + 1) _ _ _ (by omega) (by omega) hc (by rw [hcs]; omega)
    · have w6 : ((low : Int) + (p : Int)) % 18446744073709551616 = ((low + p - 18446744073709551616 : Nat) : Int) := by omega
      have w7 : ((low + p - 18446744073709551616 : Nat) : Int) < (p : Int) := by omega
      have w8 : ((high : Int) + 1) % 18446744073709551616 = ((high + 1 : Nat) : Int) := by omega
      repeat (first | (simp (maxSteps := 1000000) only [evB, if_true, if_false, ne_eq, Nat.reduceEqDiff, Nat.reduceAdd, reduceCtorEq, Int.reduceLE, Int.reduceLT, Int.reduceEq, Int.reduceNeg, Int.reduceToNat, Int.reducePow, Int.reduceMod, Int.reduceDiv, Int.reduceSub, Int.reduceAdd, Int.reduceMul, Nat.reduceMul, Nat.reduceSub, Nat.reducePow, c_ref01_Mul_b1, h1, h2, e7, e8, w1, w2, w4, w5, w6, w7, w8]) | (simp (disch := omega) only [dsB]))
      exact Mul_inner ha hb hs hk hA m (i + 1) _ _ _ (by omega) (by omega) (by omega) (by rw [hcs]; omega)

theorem Mul_outer {a b : List Nat} {z y : Bool} (ha : Dg a) (hb : Dg b) (hs : a.length < 1073741824) (ht : b.length < 1073741824) : ∀ (m k : Nat) (h : Heap) (v : AV) (l : List Nat) (low high : Nat),
    m + k = a.length + b.length → Bld h v l → Dg l → l.length = k → low < 18446744073709551616 → low + 18446744073709551616 * high < 1298074214633706907132624082305024 →
    val l + 4294967296 ^ k * (low + 18446744073709551616 * high) = cV a b k →
    Post (evL G T c_ref01_Mul_l2 [(0, D z a), (1, D y b), (5, v), (6, .int .u64 (low : Int)), (7, .int .u64 (high : Int)), (8, .int .i64 (k : Int))] h) fun r =>
      ∃ e h' v' l' c', r = (.exit 0, (0, D z a) :: (1, D y b) :: (5, v') :: e, h') ∧ Bld h' v' l' ∧ Dg l' ∧ l'.length = a.length + b.length ∧ val l' + 4294967296 ^ (a.length + b.length) * c' = val a * val b
  | 0, k, h, v, l, low, high, hm, B, hd, hl, hlow, hA, he => by
    rw [s_loopc G T (c := c_ref01_Mul_l2) rfl]
    have e1 : (a.length : Int) + (b.length : Int) = ((a.length + b.length : Nat) : Int) := by omega
    have h1 : ¬ (k : Int) < ((a.length + b.length : Nat) : Int) := by omega
    repeat (first | (simp (maxSteps := 1000000) only [evB, if_true, if_false, ne_eq, Nat.reduceEqDiff, Nat.reduceAdd, reduceCtorEq, Int.reduceLE, Int.reduceLT, Int.reduceEq, Int.reduceNeg, Int.reduceToNat, Int.reducePow, Int.reduceMod, Int.reduceDiv, Int.reduceSub, Int.reduceAdd, Int.reduceMul, Nat.reduceMul, Nat.reduceSub, Nat.reducePow, c_ref01_Mul_b2, e1, h1]) | (simp (disch := omega) only [dsB]))
    rw [show k = a.length + b.length by omega, cV_eq b a _ (Nat.le_refl _)] at he
    exact Post.some ⟨_, _, _, _, _, rfl, B, hd, by omega, he⟩
  | m + 1, k, h, v, l, low, high, hm, B, hd, hl, hlow, hA, he => by
    rw [s_loopc G T (c := c_ref01_Mul_l2) rfl]
    have e1 : (a.length : Int) + (b.length : Int) = ((a.length + b.length : Nat) : Int) := by omega
    have h1 : (k : Int) < ((a.length + b.length : Nat) : Int) := by omega
    have e7 : (k : Int) + 1 = ((k + 1 : Nat) : Int) := by omega
    obtain ⟨i0, hi0⟩ : ∃ i0, i0 = k + 1 - b.length := ⟨_, rfl⟩
    have hlow0 : cS a b k i0 = 0 := by
      by_cases q : b.length ≤ k + 1
      · exact cS_low (by omega)
      · have : i0 = 0 := by omega
        rw [this]; rfl
    obtain ⟨_, hr, e, low', high', rfl, hlow', he'⟩ := Mul_inner (G := G) (T := T) (z := z) (y := y) (v := v) (k := k) (A := low + 18446744073709551616 * high) ha hb hs (by omega) hA (min (k + 1) a.length - i0) i0 h low high (by omega) (by omega) hlow (by rw [hlow0]; rfl)
    have hSb := cS_lt ha hb k a.length
    have hstep := cV_step (S := cS a b k a.length) (k := k) he
    rw [← he'] at hstep
    have hacc : low' + 18446744073709551616 * high' < 2596148429267413814265248164610048 := by omega
    have hbnd : (low' + 18446744073709551616 * high') / 4294967296 < 1298074214633706907132624082305024 := by omega
    have hlo : (low' + 18446744073709551616 * high') % 4294967296 = low' % 4294967296 := by omega
    have hnew : low' / 4294967296 + high' % 4294967296 * 4294967296 + 18446744073709551616 * (high' / 4294967296) = (low' + 18446744073709551616 * high') / 4294967296 := by omega
    rw [hlo, ← hnew] at hstep
    rw [← hnew] at hbnd
    clear hlo hnew hSb
    have w2 : (low' : Int) % 4294967296 = ((low' % 4294967296 : Nat) : Int) := by omega
    have w3 : (low' : Int) / 4294967296 = ((low' / 4294967296 : Nat) : Int) := by omega
    have w4 := or_shl (a := low' / 4294967296) (h := high') (by omega)
    have w5 : (high' : Int) / 4294967296 = ((high' / 4294967296 : Nat) : Int) := by omega
    have hm1 : low' % 4294967296 < 4294967296 := Nat.mod_lt _ (by decide)
    have hq : low' / 4294967296 + high' % 4294967296 * 4294967296 < 18446744073709551616 := by omega
    have key : val (l ++ [low' % 4294967296]) + 4294967296 ^ (k + 1) * (low' / 4294967296 + high' % 4294967296 * 4294967296 + 18446744073709551616 * (high' / 4294967296)) = cV a b (k + 1) := by
      rw [val_snoc, hl, Nat.pow_succ, cV]; exact hstep
    have B2 := (Bld_app B (w := ((low' % 4294967296 : Nat) : Int)) (by omega) (by omega)).2
    rw [Int.toNat_natCast] at B2
    by_cases h2 : (b.length : Int) ≤ (k : Int)
    · have e8 : (k : Int) - (b.length : Int) = ((k - b.length : Nat) : Int) := by omega
      have e9 : ((k - b.length : Nat) : Int) + 1 = (i0 : Int) := by omega
      repeat (first | (simp (maxSteps := 1000000) only [evB, if_true, if_false, ne_eq, Nat.reduceEqDiff, Nat.reduceAdd, reduceCtorEq, Int.reduceLE, Int.reduceLT, Int.reduceEq, Int.reduceNeg, Int.reduceToNat, Int.reducePow, Int.reduceMod, Int.reduceDiv, Int.reduceSub, Int.reduceAdd, Int.reduceMul, Nat.reduceMul, Nat.reduceSub, Nat.reducePow, c_ref01_Mul_b2, e1, h1, h2, e8, e9, hr, w2, w3, w4, w5, e7 ]) | (simp (disch := omega) only [dsB,  app_b B]))
      exact Mul_outer ha hb hs ht m (k + 1) _ _ _ _ _ (by omega) B2 (Dg_snoc hd hm1) (by rw [List.length_append, hl]; rfl) hq hbnd key
    · have hz : i0 = 0 := by omega
      subst hz
      rw [cast0] at hr
      repeat (first | (simp (maxSteps := 1000000) only [evB, if_true, if_false, ne_eq, Nat.reduceEqDiff, Nat.reduceAdd, reduceCtorEq, Int.reduceLE, Int.reduceLT, Int.reduceEq, Int.reduceNeg, Int.reduceToNat, Int.reducePow, Int.reduceMod, Int.reduceDiv, Int.reduceSub, Int.reduceAdd, Int.reduceMul, Nat.reduceMul, Nat.reduceSub, Nat.reducePow, c_ref01_Mul_b2, e1, h1, h2, hr, w2, w3, w4, w5, e7 ]) | (simp (disch := omega) only [dsB,  app_b B]))
      exact Mul_outer ha hb hs ht m (k + 1) _ _ _ _ _ (by omega) B2 (Dg_snoc hd hm1) (by rw [List.length_append, hl]; rfl) hq hbnd key

theorem ref01_Mul (hB : HasB g T) (hT : HasF g T) {z y : Bool} {a b : Nat} (hs : (dl a).length < 1073741824) (ht : (dl b).length < 1073741824) : ∃ z', run G T 158 [D z (dl a), D y (dl b)] = some (D z' (dl (a * b))) := by
  apply exP
  rw [run_k G T hT.ref01_Mul]
  by_cases h1 : ((dl a).length : Int) = 0
  · have ha : a = 0 := dl_len0.1 (by omega)
    repeat (first | (simp (maxSteps := 1000000) only [evB, if_true, if_false, ne_eq, Nat.reduceEqDiff, Nat.reduceAdd, reduceCtorEq, Int.reduceLE, Int.reduceLT, Int.reduceEq, Int.reduceNeg, Int.reduceToNat, Int.reducePow, Int.reduceMod, Int.reduceDiv, Int.reduceSub, Int.reduceAdd, Int.reduceMul, Nat.reduceMul, Nat.reduceSub, Nat.reducePow, c_ref01_Mul, h1]) | (simp (disch := omega) only [dsB]))
    rw [ha, Nat.zero_mul, dl_zero]
    exact Post.some ⟨true, rfl⟩
  · by_cases h2 : ((dl b).length : Int) = 0
    · have hb : b = 0 := dl_len0.1 (by omega)
      repeat (first | (simp (maxSteps := 1000000) only [evB, if_true, if_false, ne_eq, Nat.reduceEqDiff, Nat.reduceAdd, reduceCtorEq, Int.reduceLE, Int.reduceLT, Int.reduceEq, Int.reduceNeg, Int.reduceToNat, Int.reducePow, Int.reduceMod, Int.reduceDiv, Int.reduceSub, Int.reduceAdd, Int.reduceMul, Nat.reduceMul, Nat.reduceSub, Nat.reducePow, c_ref01_Mul, h1, h2]) | (simp (disch := omega) only [dsB]))
      rw [hb, Nat.mul_zero, dl_zero]
      exact Post.some ⟨true, rfl⟩
    · obtain ⟨_, hr, e, h', v', l', c', rfl, B, hd, hl, hv⟩ := Mul_outer (G := G) (T := T) (z := z) (y := y) (Dg_dl a) (Dg_dl b) hs ht ((dl a).length + (dl b).length) 0 .nil .nil [] 0 0 rfl Bld_nil Dg.nil rfl (by decide) (by decide) rfl
      rw [cast0] at hr
      have hva := val_lt (Dg_dl a)
      have hvb := val_lt (Dg_dl b)
      have hc0 : val l' = a * b := by
        rw [val_dl] at hva hvb hv
        rw [val_dl] at hv
        have hlt : a * b < 4294967296 ^ ((dl a).length + (dl b).length) := by
          rw [Nat.pow_add]; exact Nat.mul_lt_mul_of_lt_of_lt hva hvb
        rcases Nat.eq_zero_or_pos c' with hc | hc
        · rw [hc, Nat.mul_zero, Nat.add_zero] at hv; exact hv
        · have := Nat.mul_le_mul_left (4294967296 ^ ((dl a).length + (dl b).length)) hc
          omega
      obtain ⟨z', hz⟩ := ref01_Trim (G := G) (T := T) hB (z := isN v') hd (by omega)
      rw [hc0] at hz
      repeat (first | (simp (maxSteps := 1000000) only [evB, if_true, if_false, ne_eq, Nat.reduceEqDiff, Nat.reduceAdd, reduceCtorEq, Int.reduceLE, Int.reduceLT, Int.reduceEq, Int.reduceNeg, Int.reduceToNat, Int.reducePow, Int.reduceMod, Int.reduceDiv, Int.reduceSub, Int.reduceAdd, Int.reduceMul, Nat.reduceMul, Nat.reduceSub, Nat.reducePow, c_ref01_Mul, h1, h2, hr, B.snap, hz]) | (simp (disch := omega) only [dsB]))
      exact Post.some ⟨_, rfl⟩

theorem ref02_Mul (hB : HasB g T) (hC : HasC g T) (hT : HasF g T) {z y : Bool} {a b : Dy} (ha : (dl a.m).length < 1073741824) (hb : (dl b.m).length < 1073741824) (ea : -274877906944 < a.e ∧ a.e < 274877906944) (eb : -274877906944 < b.e ∧ b.e < 274877906944) :
    ∃ z', run G T 154 [DyA z a, DyA y b] = some (DyA z' (mkD (a.n != b.n) (a.m * b.m) (a.e + b.e))) := by
  obtain ⟨n, m, e⟩ := a
  obtain ⟨n', m', e'⟩ := b
  simp only at *
  obtain ⟨z1, h1⟩ := ref01_Mul (G := G) (T := T) hB hT (z := z) (y := y) (a := m) (b := m') ha hb
  have hl : (dl (m * m')).length < 17179869184 := by
    have h1 := dl_len.1 (Nat.le_refl (dl m).length)
    have h2 := dl_len.1 (Nat.le_refl (dl m').length)
    have h3 : (dl (m * m')).length ≤ (dl m).length + (dl m').length := by
      rw [dl_len, Nat.pow_add]; exact Nat.mul_lt_mul_of_lt_of_lt h1 h2
    omega
  obtain ⟨z2, h2⟩ := ref02_Form (G := G) (T := T) hB hC (n := n != n') (z := z1) (a := m * m') (e := e + e') hl (by omega)
  have w1 : IntKind.i64.wrap (e + e') = e + e' := wrap_i64 (by omega)
  have hne : (n != n') = !decide (n = n') := by cases n <;> cases n' <;> rfl
  refine ⟨z2, ?_⟩
  rw [hne] at h2 ⊢
  rw [run_k G T hT.ref02_Mul]
  simp only [DyA, A3] at *
  repeat' (first | (simp (maxSteps := 1000000) only [evB, if_true, if_false, ne_eq, Nat.reduceEqDiff, Nat.reduceAdd, reduceCtorEq, Int.reduceLE, Int.reduceLT, Int.reduceEq, Int.reduceNeg, Int.reduceToNat, Int.reducePow, Int.reduceMod, Int.reduceDiv, Int.reduceSub, Int.reduceAdd, Int.reduceMul, Nat.reduceMul, Nat.reduceSub, Nat.reducePow, exB, resC_ptr, res_cell, nilb, nilf, faddr_p, c_ref02_Mul, h1, w1, h2]) | (simp (maxSteps := 1000000) (disch := first | with_reducible assumption | omega) only [dxB]) | (simp only [kI_d, kG_dt, kG_df]; split) | (simp only [kI_v, kG_vt, kG_vf]; split))
end Go.Cv

/-
  The statement on squares and products of words.
-/
namespace Go.Cv
variable {G : Nat → Option (List AV)} {T : Tbl} {g : Nat}

theorem blen_mulT {x y a b : Nat} (hx : blen x ≤ a) (hy : blen y ≤ b) : blen (x * y) ≤ a + b := by
  refine blen_le.2 ?_
  rw [Nat.pow_add]
  exact Nat.mul_lt_mul_of_lt_of_lt (blen_le.1 hx) (blen_le.1 hy)
theorem mkD_odd {n : Bool} {m : Nat} {e : Int} (h : m % 2 = 1) : mkD n m e = ⟨n, m, e⟩ := by
  rw [mkD_pos (by omega), tz_odd h, Nat.pow_zero, Nat.div_one]; simp
theorem mkD_oddp {n : Bool} {m : Nat} {e : Int} (h : m % 2 = 1) (j : Nat) : mkD n (m * 2 ^ j) (e - j) = ⟨n, m, e⟩ := by
  have hp := Nat.two_pow_pos j
  have h0 : m * 2 ^ j ≠ 0 := by
    intro hc
    rcases Nat.mul_eq_zero.1 hc with h1 | h1 <;> omega
  rw [mkD_pos h0, tz_unique h, Nat.mul_div_cancel _ hp, show e - (j : Int) + j = e by omega]
theorem odd_mul {a b : Nat} (ha : a % 2 = 1) (hb : b % 2 = 1) : a * b % 2 = 1 := by rw [Nat.mul_mod, ha, hb]

end Go.Cv

/-
  Sums, products, roots of words, in numbers.
-/
namespace Go.Cv

/-- The canonical NaN. -/
def Fm.nan (F : Fm) : Nat := F.most * 2 ^ F.fr + 2 ^ (F.fr - 1)

theorem w_split {F : Fm} {w : Nat} (h : w < 2 * F.sg) : w = w % F.sg + F.sgn (F.ng w) ∧ w % F.sg = 2 ^ F.fr * F.ex w + F.fc w ∧ F.fc w < 2 ^ F.fr ∧ F.ex w ≤ F.most := by
  have hp := Nat.two_pow_pos F.fr
  have hsg : F.sg = 2 ^ F.fr * (F.most + 1) := by cases F <;> decide
  have h0 : 0 < F.sg := by cases F <;> decide
  refine ⟨?_, (Nat.div_add_mod _ _).symm, Nat.mod_lt _ hp, ?_⟩
  · unfold Fm.ng Fm.sgn
    by_cases h1 : F.sg ≤ w
    · rw [decide_eq_true h1, if_pos rfl, Nat.mod_eq_sub_mod h1, Nat.mod_eq_of_lt (by omega)]; omega
    · rw [decide_eq_false h1, if_neg (by decide), Nat.mod_eq_of_lt (by omega)]; rfl
  · have h1 := Nat.mod_lt w h0
    have : w % F.sg / 2 ^ F.fr < F.most + 1 := Nat.div_lt_of_lt_mul (by rw [← hsg]; exact h1)
    unfold Fm.ex; omega
theorem cls_range (F : Fm) (w : Nat) : F.cls w = 1 ∨ F.cls w = 2 ∨ F.cls w = 3 ∨ F.cls w = 4 ∨ F.cls w = 5 := by
  unfold Fm.cls; repeat' split
  all_goals omega
theorem cls_one {F : Fm} {w : Nat} (h : w < 2 * F.sg) : F.cls w = 1 ↔ w % F.sg = 0 := by
  obtain ⟨h1, h2, h3, h4⟩ := w_split h
  have hp := Nat.two_pow_pos F.fr
  rw [h2]
  unfold Fm.cls
  generalize F.ex w = x at *
  generalize F.fc w = y at *
  constructor
  · intro hc
    have hx : x = 0 ∧ y = 0 := by
      by_cases a : x = 0
      · by_cases b : y = 0
        · exact ⟨a, b⟩
        · rw [if_pos a, if_neg b] at hc; omega
      · rw [if_neg a] at hc
        split at hc
        · omega
        · split at hc <;> omega
    rw [hx.1, hx.2]; rfl
  · intro hc
    have hy : y = 0 := by omega
    have hx : x = 0 := by
      rcases Nat.mul_eq_zero.1 (show 2 ^ F.fr * x = 0 by omega) with q | q
      · omega
      · exact q
    rw [if_pos hx, if_pos hy]
theorem cls_zero_w {F : Fm} {w : Nat} (h : w < 2 * F.sg) (hc : F.cls w = 1) : w = F.sgn (F.ng w) ∧ F.val w = ⟨false, 0, 0⟩ := by
  have h1 := (w_split h).1
  rw [(cls_one h).1 hc, Nat.zero_add] at h1
  refine ⟨h1, ?_⟩
  rw [h1]
  have := val_zero F (F.ng w)
  rw [Nat.zero_add] at this
  exact this
/-- A finite word that is no nought has a value that is not nought. -/
theorem val_cls {F : Fm} {w : Nat} (h : w < 2 * F.sg) (h1 : F.cls w ≠ 1) (h2 : F.fin w) : (F.val w).m ≠ 0 := by
  obtain ⟨s, n, hw, q1, q2, q3⟩ := word_parts h
  have h0 : s ≠ 0 := by
    rintro rfl
    apply h1
    rw [cls_one h, hw]
    exact (sgn_mod n q1).1
  rw [hw]; exact (round_val F 1 n (q2 h2) h0).2
/-- An exact sum, rounded. -/
def sumW (F : Fm) (md : Int) (d : Dy) : Nat × Nat := if d.m = 0 then (F.sgn (decide (md = 5)), 0) else rndW F md d
/-- The sum of two parts (class, sign, value). -/
def addP (F : Fm) (md : Int) (c : Int) (n : Bool) (d : Dy) (c' : Int) (n' : Bool) (d' : Dy) : Nat × Nat :=
  if c = 5 ∨ c' = 5 then (F.nan, 0)
  else if c = 4 ∧ c' = 4 ∧ n ≠ n' then (F.nan, 1)
  else if c = 4 then (F.inf n, 0)
  else if c' = 4 then (F.inf n', 0)
  else if c = 1 ∧ c' = 1 ∧ n = n' then (F.sgn n, 0)
  else sumW F md (addD d d')
def mulD (a b : Dy) : Dy := mkD (a.n != b.n) (a.m * b.m) (a.e + b.e)
def mulP (F : Fm) (md : Int) (c : Int) (n : Bool) (d : Dy) (c' : Int) (n' : Bool) (d' : Dy) : Nat × Nat :=
  if c = 5 ∨ c' = 5 then (F.nan, 0)
  else if (c = 4 ∨ c' = 4) ∧ (c = 1 ∨ c' = 1) then (F.nan, 1)
  else if c = 4 ∨ c' = 4 then (F.inf (n != n'), 0)
  else if c = 1 ∨ c' = 1 then (F.sgn (n != n'), 0)
  else sumW F md (mulD d d')
def divP (F : Fm) (md : Int) (c : Int) (n : Bool) (d : Dy) (c' : Int) (n' : Bool) (d' : Dy) : Nat × Nat :=
  if c = 5 ∨ c' = 5 then (F.nan, 0)
  else if c = c' ∧ (c = 1 ∨ c = 4) then (F.nan, 1)
  else if c = 4 then (F.inf (n != n'), 0)
  else if c' = 1 then (F.inf (n != n'), 2)
  else if c = 1 ∨ c' = 4 then (F.sgn (n != n'), 0)
  else quoW F md d d'
/-- A word's value; of one that is not finite, nought. -/
def Fm.vl (F : Fm) (w : Nat) : Dy := if F.fin w then F.val w else ⟨false, 0, 0⟩
def addW (F : Fm) (md : Int) (a b : Nat) : Nat × Nat := addP F md (F.cls a) (F.ng a) (F.vl a) (F.cls b) (F.ng b) (F.vl b)
def subW (F : Fm) (md : Int) (a b : Nat) : Nat × Nat := addP F md (F.cls a) (F.ng a) (F.vl a) (F.cls b) (!F.ng b) (negD (F.vl b))
def mulW2 (F : Fm) (md : Int) (a b : Nat) : Nat × Nat := mulP F md (F.cls a) (F.ng a) (F.vl a) (F.cls b) (F.ng b) (F.vl b)
def divW2 (F : Fm) (md : Int) (a b : Nat) : Nat × Nat := divP F md (F.cls a) (F.ng a) (F.vl a) (F.cls b) (F.ng b) (F.vl b)
/-- The class of a product. -/
def prC (c c' : Int) : Int := if c = 4 ∨ c' = 4 then 4 else if c = 1 ∨ c' = 1 then 1 else 3
def fmaW (F : Fm) (md : Int) (a b c : Nat) : Nat × Nat :=
  if F.cls a = 5 ∨ F.cls b = 5 ∨ F.cls c = 5 then (F.nan, 0)
  else if (F.cls a = 4 ∨ F.cls b = 4) ∧ (F.cls a = 1 ∨ F.cls b = 1) then (F.nan, 1)
  else addP F md (prC (F.cls a) (F.cls b)) (F.ng a != F.ng b) (if prC (F.cls a) (F.cls b) = 3 then mulD (F.vl a) (F.vl b) else ⟨false, 0, 0⟩) (F.cls c) (F.ng c) (F.vl c)

theorem addD_comm {a b : Dy} (ha : Nz a) (hb : Nz b) : addD a b = addD b a := by
  unfold addD
  by_cases h1 : a.m = 0
  · by_cases h2 : b.m = 0
    · rw [if_pos h1, if_pos h2, ha.1 h1, hb.1 h2]
    · rw [if_pos h1, if_neg h2, if_pos h1]
  · by_cases h2 : b.m = 0
    · rw [if_neg h1, if_pos h2, if_pos h2]
    · rw [if_neg h1, if_neg h2, if_neg h2, if_neg h1, Int.min_comm b.e a.e]
      generalize a.m * 2 ^ (a.e - min a.e b.e).toNat = x
      generalize b.m * 2 ^ (b.e - min a.e b.e).toNat = y
      by_cases h3 : a.n = b.n
      · rw [if_pos h3, if_pos h3.symm, h3, Nat.add_comm]
      · rw [if_neg h3, if_neg (show ¬ b.n = a.n from fun h => h3 h.symm)]
        by_cases h4 : y ≤ x
        · by_cases h5 : x ≤ y
          · rw [if_pos h4, if_pos h5, show x = y by omega, Nat.sub_self]; rfl
          · rw [if_pos h4, if_neg h5]
        · rw [if_neg h4, if_pos (by omega)]
/-- The word with the other sign. -/
def Fm.flip (F : Fm) (w : Nat) : Nat := w % F.sg + F.sgn (!F.ng w)
theorem flip_facts {F : Fm} {w : Nat} (h : w < 2 * F.sg) : F.flip w < 2 * F.sg ∧ F.ng (F.flip w) = !F.ng w ∧ F.cls (F.flip w) = F.cls w ∧ F.vl (F.flip w) = negD (F.vl w) := by
  have h0 : 0 < F.sg := by cases F <;> decide
  have h1 := Nat.mod_lt w h0
  obtain ⟨e1, e2⟩ := sgn_mod (F := F) (!F.ng w) h1
  have hx : F.ex (F.flip w) = F.ex w := by unfold Fm.ex Fm.flip; rw [e1]
  have hy : F.fc (F.flip w) = F.fc w := by unfold Fm.fc Fm.flip; rw [e1]
  refine ⟨?_, e2, ?_, ?_⟩
  · unfold Fm.flip Fm.sgn; split <;> omega
  · unfold Fm.cls; rw [hx, hy]
  · have hn : F.ng (F.flip w) = !F.ng w := e2
    have hff : F.fin (F.flip w) ↔ F.fin w := by unfold Fm.fin; rw [hx]
    unfold Fm.vl
    by_cases h3 : F.fin w
    · rw [if_pos h3, if_pos (hff.2 h3)]
      unfold Fm.val
      rw [hx, hy, hn]
      have hmk : ∀ (m : Nat) (e : Int), mkD (!F.ng w) m e = negD (mkD (F.ng w) m e) := fun m e => by
        by_cases hm : m = 0
        · subst hm; rfl
        · unfold negD; rw [if_neg (mkD_m0 hm e), mkD_pos hm, mkD_pos hm]
      split <;> exact hmk _ _
    · rw [if_neg h3, if_neg (fun h => h3 (hff.1 h))]; rfl
theorem Nz_vl (F : Fm) (w : Nat) : Nz (F.vl w) := by
  unfold Fm.vl; split
  · unfold Fm.val; split <;> exact Nz_mk _ _ _
  · exact ⟨fun _ => rfl, fun h => absurd rfl h⟩
theorem Bd_vl (F : Fm) (w : Nat) : Bd (F.vl w) 4096 := by
  unfold Fm.vl; split
  · rename_i h; exact Bd_val F h
  · exact ⟨by simp only [blen_zero]; omega, by simp, by simp⟩
theorem fin_iff {F : Fm} {w : Nat} : F.fin w ↔ F.cls w = 1 ∨ F.cls w = 2 ∨ F.cls w = 3 := by
  have h1 := fin_cls F w
  have h2 := cls_range F w
  constructor
  · intro h; have := h1.1 h; omega
  · intro h; exact h1.2 (by omega)
end Go.Cv

/-
  The program's sums, differences, comparisons of numbers.
-/
namespace Go.Cv
variable {G : Nat → Option (List AV)} {T : Tbl} {g : Nat}

theorem val_set_take {l : List Nat} {i v : Nat} (h : i < l.length) : val ((l.set i v).take (i + 1)) = val (l.take i) + 4294967296 ^ i * v := by
  rw [val_take_succ', List.take_set_of_le (Nat.le_refl i)]
  congr 2
  rw [dg_lt (by rw [List.length_set]; exact h), List.getElem_set_self]

theorem nAdd_loop (hT : HasA g T) {A B : List Nat} {z y : Bool} {b : Nat} (hA : Dg A) (hB : Dg B) (hs : A.length < 17179869184) (ht : B.length ≤ A.length) : ∀ (m i : Nat) (h : Heap) (l : List Nat) (c : Nat),
    m + i = A.length → Holds h b l → Dg l → l.length = A.length + 1 → c ≤ 1 → val (l.take i) + 4294967296 ^ i * c = val (A.take i) + val (B.take i) →
    Post (evL G T c_nat_Add_l1 [(0, D z A), (1, D y B), (6, .own b 0 (A.length + 1) 1), (7, .int .u32 (c : Int)), (27, .int .i64 ((A.length : Nat) : Int)), (28, .int .i64 (i : Int))] h) fun r =>
      ∃ e h' l' c', r = (.exit 0, (0, D z A) :: (1, D y B) :: (6, .own b 0 (A.length + 1) 1) :: (7, .int .u32 ((c' : Nat) : Int)) :: e, h') ∧ Holds h' b l' ∧ Dg l' ∧ l'.length = A.length + 1 ∧ c' ≤ 1 ∧ val (l'.take A.length) + 4294967296 ^ A.length * c' = val A + val B
  | 0, i, h, l, c, hm, H, hd, hl, hc, he => by
    rw [s_loopc G T (c := c_nat_Add_l1) rfl]
    have h1 : ¬ (i : Int) < (A.length : Int) := by omega
    repeat (first | (simp (maxSteps := 1000000) only [evB, if_true, if_false, ne_eq, Nat.reduceEqDiff, Nat.reduceAdd, reduceCtorEq, Int.reduceLE, Int.reduceLT, Int.reduceEq, Int.reduceNeg, Int.reduceToNat, Int.reducePow, Int.reduceMod, Int.reduceDiv, Int.reduceSub, Int.reduceAdd, Int.reduceMul, Nat.reduceMul, Nat.reduceSub, Nat.reducePow, c_nat_Add_b1, h1]) | (simp (disch := omega) only [dsB]))
    obtain rfl : i = A.length := by omega
    rw [List.take_length, List.take_of_length_le ht] at he
    exact Post.some ⟨_, _, _, _, rfl, H, hd, hl, hc, he⟩
  | m + 1, i, h, l, c, hm, H, hd, hl, hc, he => by
    rw [s_loopc G T (c := c_nat_Add_l1) rfl]
    have h1 : (i : Int) < (A.length : Int) := by omega
    have e7 : (i : Int) + 1 = ((i + 1 : Nat) : Int) := by omega
    have hx := hA.dg i
    have hy := hB.dg i
    have hil : i < l.length := by omega
    have hb := bits_Add32 (G := G) (T := T) hT (x := dg A i) (y := dg B i) (w := c) (d := (dg A i + dg B i + c) % 4294967296) (z := (dg A i + dg B i + c) / 4294967296) hx hy hc (Nat.mod_lt _ (by decide)) (by omega) (by omega)
    have key : val ((l.set i ((dg A i + dg B i + c) % 4294967296)).take (i + 1)) + 4294967296 ^ (i + 1) * ((dg A i + dg B i + c) / 4294967296) = val (A.take (i + 1)) + val (B.take (i + 1)) := by
      rw [val_set_take hil, val_take_succ', val_take_succ', Nat.pow_succ, Nat.mul_assoc, Nat.add_assoc, ← Nat.mul_add, Nat.mod_add_div, Nat.mul_add, Nat.mul_add]
      omega
    have hz : (dg A i + dg B i + c) / 4294967296 ≤ 1 := by omega
    have hm1 : (dg A i + dg B i + c) % 4294967296 < 4294967296 := Nat.mod_lt _ (by decide)
    by_cases h2 : (i : Int) < (B.length : Int)
    · repeat (first | (simp (maxSteps := 1000000) only [evB, if_true, if_false, ne_eq, Nat.reduceEqDiff, Nat.reduceAdd, reduceCtorEq, Int.reduceLE, Int.reduceLT, Int.reduceEq, Int.reduceNeg, Int.reduceToNat, Int.reducePow, Int.reduceMod, Int.reduceDiv, Int.reduceSub, Int.reduceAdd, Int.reduceMul, Nat.reduceMul, Nat.reduceSub, Nat.reducePow, c_nat_Add_b1, h1, h2, hb, e7 ]) | (simp (disch := omega) only [dsB,  store_n H]))
      exact nAdd_loop hT hA hB hs ht m (i + 1) _ _ _ (by omega) (H.put _) (Dg_set hd hm1) (by rw [List.length_set]; exact hl) hz key
    · have hg : dg B i = 0 := dg_ge (by omega)
      rw [hg] at hb key hz hm1
      rw [cast0] at hb
      repeat (first | (simp (maxSteps := 1000000) only [evB, if_true, if_false, ne_eq, Nat.reduceEqDiff, Nat.reduceAdd, reduceCtorEq, Int.reduceLE, Int.reduceLT, Int.reduceEq, Int.reduceNeg, Int.reduceToNat, Int.reducePow, Int.reduceMod, Int.reduceDiv, Int.reduceSub, Int.reduceAdd, Int.reduceMul, Nat.reduceMul, Nat.reduceSub, Nat.reducePow, c_nat_Add_b1, h1, h2, hb, e7 ]) | (simp (disch := omega) only [dsB,  store_n H]))
      exact nAdd_loop hT hA hB hs ht m (i + 1) _ _ _ (by omega) (H.put _) (Dg_set hd hm1) (by rw [List.length_set]; exact hl) hz key

theorem nSub_loop (hT : HasA g T) {A B : List Nat} {z y : Bool} {b : Nat} (hA : Dg A) (hB : Dg B) (hs : A.length < 17179869184) (ht : B.length ≤ A.length) : ∀ (m i : Nat) (h : Heap) (l : List Nat) (c : Nat),
    m + i = A.length → Holds h b l → Dg l → l.length = A.length → c ≤ 1 → val (l.take i) + val (B.take i) = val (A.take i) + 4294967296 ^ i * c →
    Post (evL G T c_nat_sub_l1 [(0, D z A), (1, D y B), (5, .own b 0 A.length 1), (6, .int .u32 (c : Int)), (13, .int .i64 ((A.length : Nat) : Int)), (14, .int .i64 (i : Int))] h) fun r =>
      ∃ e h' l' c', r = (.exit 0, (0, D z A) :: (1, D y B) :: (5, .own b 0 A.length 1) :: (6, .int .u32 ((c' : Nat) : Int)) :: e, h') ∧ Holds h' b l' ∧ Dg l' ∧ l'.length = A.length ∧ c' ≤ 1 ∧ val l' + val B = val A + 4294967296 ^ A.length * c'
  | 0, i, h, l, c, hm, H, hd, hl, hc, he => by
    rw [s_loopc G T (c := c_nat_sub_l1) rfl]
    have h1 : ¬ (i : Int) < (A.length : Int) := by omega
    repeat (first | (simp (maxSteps := 1000000) only [evB, if_true, if_false, ne_eq, Nat.reduceEqDiff, Nat.reduceAdd, reduceCtorEq, Int.reduceLE, Int.reduceLT, Int.reduceEq, Int.reduceNeg, Int.reduceToNat, Int.reducePow, Int.reduceMod, Int.reduceDiv, Int.reduceSub, Int.reduceAdd, Int.reduceMul, Nat.reduceMul, Nat.reduceSub, Nat.reducePow, c_nat_sub_b1, h1]) | (simp (disch := omega) only [dsB]))
    obtain rfl : i = A.length := by omega
    rw [List.take_length, List.take_of_length_le ht, List.take_of_length_le (by omega)] at he
    exact Post.some ⟨_, _, _, _, rfl, H, hd, hl, hc, he⟩
  | m + 1, i, h, l, c, hm, H, hd, hl, hc, he => by
    rw [s_loopc G T (c := c_nat_sub_l1) rfl]
    have h1 : (i : Int) < (A.length : Int) := by omega
    have e7 : (i : Int) + 1 = ((i + 1 : Nat) : Int) := by omega
    have hx := hA.dg i
    have hy := hB.dg i
    have hil : i < l.length := by omega
    obtain ⟨d, q, hdq, hd1, hq⟩ : ∃ d q, d + dg B i + c = dg A i + 4294967296 * q ∧ d < 4294967296 ∧ q ≤ 1 := by
      by_cases hlt : dg A i < dg B i + c
      · exact ⟨dg A i + 4294967296 - (dg B i + c), 1, by omega, by omega, by omega⟩
      · exact ⟨dg A i - (dg B i + c), 0, by omega, by omega, by omega⟩
    have hb := bits_Sub32 (G := G) (T := T) hT (x := dg A i) (y := dg B i) (w := c) (d := d) (z := q) hx hy hc hd1 hq hdq
    have key : val ((l.set i d).take (i + 1)) + val (B.take (i + 1)) = val (A.take (i + 1)) + 4294967296 ^ (i + 1) * q := by
      rw [val_set_take hil, val_take_succ', val_take_succ', Nat.pow_succ, Nat.mul_assoc]
      have h2 : 4294967296 ^ i * d + 4294967296 ^ i * dg B i + 4294967296 ^ i * c = 4294967296 ^ i * dg A i + 4294967296 ^ i * (4294967296 * q) := by
        rw [← Nat.mul_add, ← Nat.mul_add, ← Nat.mul_add, hdq]
      omega
    by_cases h2 : (i : Int) < (B.length : Int)
    · repeat (first | (simp (maxSteps := 1000000) only [evB, if_true, if_false, ne_eq, Nat.reduceEqDiff, Nat.reduceAdd, reduceCtorEq, Int.reduceLE, Int.reduceLT, Int.reduceEq, Int.reduceNeg, Int.reduceToNat, Int.reducePow, Int.reduceMod, Int.reduceDiv, Int.reduceSub, Int.reduceAdd, Int.reduceMul, Nat.reduceMul, Nat.reduceSub, Nat.reducePow, c_nat_sub_b1, h1, h2, hb, e7 ]) | (simp (disch := omega) only [dsB,  store_n H]))
      exact nSub_loop hT hA hB hs ht m (i + 1) _ _ _ (by omega) (H.put _) (Dg_set hd hd1) (by rw [List.length_set]; exact hl) hq key
    · have hg : dg B i = 0 := dg_ge (by omega)
      rw [hg, cast0] at hb
      repeat (first | (simp (maxSteps := 1000000) only [evB, if_true, if_false, ne_eq, Nat.reduceEqDiff, Nat.reduceAdd, reduceCtorEq, Int.reduceLE, Int.reduceLT, Int.reduceEq, Int.reduceNeg, Int.reduceToNat, Int.reducePow, Int.reduceMod, Int.reduceDiv, Int.reduceSub, Int.reduceAdd, Int.reduceMul, Nat.reduceMul, Nat.reduceSub, Nat.reducePow, c_nat_sub_b1, h1, h2, hb, e7 ]) | (simp (disch := omega) only [dsB,  store_n H]))
      exact nSub_loop hT hA hB hs ht m (i + 1) _ _ _ (by omega) (H.put _) (Dg_set hd hd1) (by rw [List.length_set]; exact hl) hq key

theorem nat_bound (hT : HasA g T) {z : Bool} {l : List Nat} (h : l.length ≤ 4096) : run G T 117 [D z l] = some (.tup [D z l, .int .i64 0]) := by
  rw [run_k G T hT.nat_bound]
  have h1 : ¬ (4096 : Int) < (l.length : Int) := by omega
  repeat (first | (simp (maxSteps := 1000000) only [evB, if_true, if_false, ne_eq, Nat.reduceEqDiff, Nat.reduceAdd, reduceCtorEq, Int.reduceLE, Int.reduceLT, Int.reduceEq, Int.reduceNeg, Int.reduceToNat, Int.reducePow, Int.reduceMod, Int.reduceDiv, Int.reduceSub, Int.reduceAdd, Int.reduceMul, Nat.reduceMul, Nat.reduceSub, Nat.reducePow, c_nat_bound, h1]) | (simp (disch := omega) only [dsB]))

theorem nat_sub (hT : HasA g T) {z y : Bool} {a b : Nat} (ha : (dl a).length < 17179869184) (hab : b ≤ a) : ∃ z', run G T 116 [D z (dl a), D y (dl b)] = some (D z' (dl (a - b))) := by
  have hlen : (dl b).length ≤ (dl a).length := by
    rw [dl_len]; exact Nat.lt_of_le_of_lt hab (dl_len.1 (Nat.le_refl _))
  obtain ⟨_, hr, e, h', l', c', rfl, H, hd, hl, hc, hv⟩ := nSub_loop (G := G) (T := T) (z := z) (y := y) (b := Heap.nil.b.length) hT (Dg_dl a) (Dg_dl b) ha hlen (dl a).length 0 (new .nil (List.replicate (dl a).length 0)) _ 0 (by omega) (Holds_new FreH.nil _) (Dg_rep _) (by rw [List.length_replicate]) (by omega) (by simp [val])
  rw [cast0] at hr
  rw [val_dl, val_dl] at hv
  have hlt := val_lt hd
  have hc0 : c' = 0 := by
    rcases Nat.eq_zero_or_pos c' with q | q
    · exact q
    · have : c' = 1 := by omega
      rw [this, Nat.mul_one, ← hl] at hv; omega
  rw [hc0, Nat.mul_zero, Nat.add_zero] at hv
  have hv2 : val l' = a - b := by omega
  have hsn := snap_own H (n := (dl a).length) (by omega)
  rw [← hl, List.take_length] at hsn
  obtain ⟨z', hz⟩ := nat_trim (G := G) (T := T) hT (z := false) hd (by omega)
  rw [hl] at hsn
  refine ⟨z', ?_⟩
  rw [run_k G T hT.nat_sub, ← hv2]
  repeat (first | (simp (maxSteps := 1000000) only [evB, if_true, if_false, ne_eq, Nat.reduceEqDiff, Nat.reduceAdd, reduceCtorEq, Int.reduceLE, Int.reduceLT, Int.reduceEq, Int.reduceNeg, Int.reduceToNat, Int.reducePow, Int.reduceMod, Int.reduceDiv, Int.reduceSub, Int.reduceAdd, Int.reduceMul, Nat.reduceMul, Nat.reduceSub, Nat.reducePow, c_nat_sub, hr, hsn, hz]) | (simp (disch := omega) only [dsB]))

theorem nat_Sub (hT : HasA g T) {z y : Bool} {a b : Nat} (ha : mayL (dl a) = true) (hb : mayL (dl b) = true) (hab : b ≤ a) : ∃ z', run G T 103 [D z (dl a), D y (dl b)] = some (.tup [D z' (dl (a - b)), .int .i64 0]) := by
  have la := (mayL_iff.1 ha).1
  have lb := (mayL_iff.1 hb).1
  have h1 := nat_all (G := G) hT (z := z) (y := y) (a := dl a) (b := dl b)
  rw [ha, hb, Bool.and_self] at h1
  have h2 := nat_cmp (G := G) hT (z := z) (y := y) (a := a) (b := b) (by omega) (by omega)
  have h3 : ¬ cmpN a b < 0 := by rw [cmpN_neg]; omega
  obtain ⟨z', h4⟩ := nat_sub (G := G) (T := T) hT (z := z) (y := y) (a := a) (b := b) (by omega) hab
  refine ⟨z', ?_⟩
  rw [run_k G T hT.nat_Sub]
  repeat' (first | (simp (maxSteps := 1000000) only [evB, if_true, if_false, ne_eq, Nat.reduceEqDiff, Nat.reduceAdd, reduceCtorEq, Int.reduceLE, Int.reduceLT, Int.reduceEq, Int.reduceNeg, Int.reduceToNat, Int.reducePow, Int.reduceMod, Int.reduceDiv, Int.reduceSub, Int.reduceAdd, Int.reduceMul, Nat.reduceMul, Nat.reduceSub, Nat.reducePow, exB, resC_ptr, res_cell, nilb, nilf, faddr_p, c_nat_Sub, h1, h2, h3, h4]) | (simp (maxSteps := 1000000) (disch := first | with_reducible assumption | omega) only [dxB]) | (simp only [kI_d, kG_dt, kG_df]; split) | (simp only [kI_v, kG_vt, kG_vf]; split))

theorem nat_Cmp (hT : HasA g T) {z y : Bool} {a b : Nat} (ha : mayL (dl a) = true) (hb : mayL (dl b) = true) : run G T 104 [D z (dl a), D y (dl b)] = some (.tup [.int .i64 (cmpN a b), .int .i64 0]) := by
  have la := (mayL_iff.1 ha).1
  have lb := (mayL_iff.1 hb).1
  have h1 := nat_all (G := G) hT (z := z) (y := y) (a := dl a) (b := dl b)
  rw [ha, hb, Bool.and_self] at h1
  have h2 := nat_cmp (G := G) hT (z := z) (y := y) (a := a) (b := b) (by omega) (by omega)
  rw [run_k G T hT.nat_Cmp]
  repeat' (first | (simp (maxSteps := 1000000) only [evB, if_true, if_false, ne_eq, Nat.reduceEqDiff, Nat.reduceAdd, reduceCtorEq, Int.reduceLE, Int.reduceLT, Int.reduceEq, Int.reduceNeg, Int.reduceToNat, Int.reducePow, Int.reduceMod, Int.reduceDiv, Int.reduceSub, Int.reduceAdd, Int.reduceMul, Nat.reduceMul, Nat.reduceSub, Nat.reducePow, exB, resC_ptr, res_cell, nilb, nilf, faddr_p, c_nat_Cmp, h1, h2]) | (simp (maxSteps := 1000000) (disch := first | with_reducible assumption | omega) only [dxB]) | (simp only [kI_d, kG_dt, kG_df]; split) | (simp only [kI_v, kG_vt, kG_vf]; split))

/-- What comes after the loop of the sum. -/
theorem nat_Add_ord (hT : HasA g T) {z y : Bool} {a b : Nat} (ha : mayL (dl a) = true) (hb : mayL (dl b) = true) (hab : (dl b).length ≤ (dl a).length) (hs : (dl (a + b)).length ≤ 4096) : ∃ z', run G T 105 [D z (dl a), D y (dl b)] = some (.tup [D z' (dl (a + b)), .int .i64 0]) := by
  have la := (mayL_iff.1 ha).1
  have lb := (mayL_iff.1 hb).1
  have h1 := nat_all (G := G) hT (z := z) (y := y) (a := dl a) (b := dl b)
  rw [ha, hb, Bool.and_self] at h1
  have h2 : ¬ ((dl a).length : Int) < ((dl b).length : Int) := by omega
  obtain ⟨_, hr, e, h', l', c', rfl, H, hd, hl, hc, hv⟩ := nAdd_loop (G := G) (T := T) (z := z) (y := y) (b := 1) hT (Dg_dl a) (Dg_dl b) (by omega) hab (dl a).length 0 (new ⟨[⟨[D z (dl a), D y (dl b)], false⟩], fz1 (AV.bool true) [0]⟩ (List.replicate ((dl a).length + 1) 0)) _ 0 (by omega) (Holds_new (h := ⟨[⟨[D z (dl a), D y (dl b)], false⟩], fz1 (AV.bool true) [0]⟩) (fun _ h => absurd h List.not_mem_nil) _) (Dg_rep _) (by rw [List.length_replicate]) (by omega) (by simp [val])
  rw [cast0] at hr
  rw [val_dl, val_dl] at hv
  have hil : (dl a).length < l'.length := by omega
  have hvs := val_set_take (v := c') hil
  rw [hv, List.take_of_length_le (by rw [List.length_set]; omega)] at hvs
  have H2 := H.put (l'.set (dl a).length c')
  have hd2 : Dg (l'.set (dl a).length c') := Dg_set hd (by omega)
  have hl2 : (l'.set (dl a).length c').length = (dl a).length + 1 := by rw [List.length_set]; exact hl
  have hsn := snap_own H2 (n := (dl a).length + 1) (by omega)
  rw [← hl2, List.take_length] at hsn
  obtain ⟨z', hz⟩ := nat_trim (G := G) (T := T) hT (z := false) hd2 (by omega)
  rw [hl2] at hsn
  rw [hvs] at hz
  have hbd := nat_bound (G := G) (T := T) hT (z := z') hs
  have e8 : ((dl a).length : Int) + 1 = (((dl a).length + 1 : Nat) : Int) := by omega
  refine ⟨z', ?_⟩
  rw [run_k G T hT.nat_Add]
  repeat' (first | (simp (maxSteps := 1000000) only [evB, if_true, if_false, ne_eq, Nat.reduceEqDiff, Nat.reduceAdd, reduceCtorEq, Int.reduceLE, Int.reduceLT, Int.reduceEq, Int.reduceNeg, Int.reduceToNat, Int.reducePow, Int.reduceMod, Int.reduceDiv, Int.reduceSub, Int.reduceAdd, Int.reduceMul, Nat.reduceMul, Nat.reduceSub, Nat.reducePow, exB, resC_ptr, res_cell, nilb, nilf, faddr_p, c_nat_Add, h1, h2, e8, hr, hsn, hz, hbd ]) | (simp (maxSteps := 1000000) (disch := first | with_reducible assumption | omega) only [dxB,  store_n H]) | (simp only [kI_d, kG_dt, kG_df]; split) | (simp only [kI_v, kG_vt, kG_vf]; split))
theorem nat_Add (hT : HasA g T) {z y : Bool} {a b : Nat} (ha : mayL (dl a) = true) (hb : mayL (dl b) = true) (hs : (dl (a + b)).length ≤ 4096) : ∃ z', run G T 105 [D z (dl a), D y (dl b)] = some (.tup [D z' (dl (a + b)), .int .i64 0]) := by
  have la := (mayL_iff.1 ha).1
  have lb := (mayL_iff.1 hb).1
  by_cases hab : (dl b).length ≤ (dl a).length
  · exact nat_Add_ord hT ha hb hab hs
  have h1 := nat_all (G := G) hT (z := z) (y := y) (a := dl a) (b := dl b)
  rw [ha, hb, Bool.and_self] at h1
  have h2 : ((dl a).length : Int) < ((dl b).length : Int) := by omega
  obtain ⟨_, hr, e, h', l', c', rfl, H, hd, hl, hc, hv⟩ := nAdd_loop (G := G) (T := T) (z := y) (y := z) (b := 1) hT (Dg_dl b) (Dg_dl a) (by omega) (by omega) (dl b).length 0 (new ⟨[⟨[D z (dl a), D y (dl b)], false⟩], fz1 (AV.bool true) [0]⟩ (List.replicate ((dl b).length + 1) 0)) _ 0 (by omega) (Holds_new (h := ⟨[⟨[D z (dl a), D y (dl b)], false⟩], fz1 (AV.bool true) [0]⟩) (fun _ h => absurd h List.not_mem_nil) _) (Dg_rep _) (by rw [List.length_replicate]) (by omega) (by simp [val])
  rw [cast0] at hr
  rw [val_dl, val_dl, Nat.add_comm b a] at hv
  have hil : (dl b).length < l'.length := by omega
  have hvs := val_set_take (v := c') hil
  rw [hv, List.take_of_length_le (by rw [List.length_set]; omega)] at hvs
  have H2 := H.put (l'.set (dl b).length c')
  have hd2 : Dg (l'.set (dl b).length c') := Dg_set hd (by omega)
  have hl2 : (l'.set (dl b).length c').length = (dl b).length + 1 := by rw [List.length_set]; exact hl
  have hsn := snap_own H2 (n := (dl b).length + 1) (by omega)
  rw [← hl2, List.take_length] at hsn
  obtain ⟨z', hz⟩ := nat_trim (G := G) (T := T) hT (z := false) hd2 (by omega)
  rw [hl2] at hsn
  rw [hvs] at hz
  have hbd := nat_bound (G := G) (T := T) hT (z := z') hs
  have e8 : ((dl b).length : Int) + 1 = (((dl b).length + 1 : Nat) : Int) := by omega
  refine ⟨z', ?_⟩
  rw [run_k G T hT.nat_Add]
  repeat' (first | (simp (maxSteps := 1000000) only [evB, if_true, if_false, ne_eq, Nat.reduceEqDiff, Nat.reduceAdd, reduceCtorEq, Int.reduceLE, Int.reduceLT, Int.reduceEq, Int.reduceNeg, Int.reduceToNat, Int.reducePow, Int.reduceMod, Int.reduceDiv, Int.reduceSub, Int.reduceAdd, Int.reduceMul, Nat.reduceMul, Nat.reduceSub, Nat.reducePow, exB, resC_ptr, res_cell, nilb, nilf, faddr_p, c_nat_Add, h1, h2, e8, hr, hsn, hz, hbd ]) | (simp (maxSteps := 1000000) (disch := first | with_reducible assumption | omega) only [dxB,  store_n H]) | (simp only [kI_d, kG_dt, kG_df]; split) | (simp only [kI_v, kG_vt, kG_vf]; split))
end Go.Cv

/-
  The program's dyadic numbers: sums, differences, products.
-/
namespace Go.Cv
variable {G : Nat → Option (List AV)} {T : Tbl} {g : Nat}

theorem blen_mulC {x y a b : Nat} (hx : blen x ≤ a) (hy : blen y ≤ b) : blen (x * y) ≤ a + b := by
  refine blen_le.2 ?_
  rw [Nat.pow_add]
  exact Nat.mul_lt_mul_of_lt_of_lt (blen_le.1 hx) (blen_le.1 hy)
theorem nat_Mul (hA : HasA g T) (hU : HasG g T) {z y : Bool} {a b : Nat} (ha : mayL (dl a) = true) (hb : mayL (dl b) = true) (hs : (dl a).length + (dl b).length ≤ 4096) : ∃ z', run G T 197 [D z (dl a), D y (dl b)] = some (.tup [D z' (dl (a * b)), .int .i64 0]) := by
  have h1 := nat_all (G := G) hA (z := z) (y := y) (a := dl a) (b := dl b)
  rw [ha, hb, Bool.and_self] at h1
  obtain ⟨z', h2⟩ := nat_mul (G := G) (T := T) hA (z := z) (y := y) (a := a) (b := b) (by omega)
  have hl : (dl (a * b)).length ≤ 4096 := by
    have e1 := dl_len.1 (Nat.le_refl (dl a).length)
    have e2 := dl_len.1 (Nat.le_refl (dl b).length)
    have : (dl (a * b)).length ≤ (dl a).length + (dl b).length := by
      rw [dl_len, Nat.pow_add]; exact Nat.mul_lt_mul_of_lt_of_lt e1 e2
    omega
  have h3 := nat_bound (G := G) (T := T) hA (z := z') hl
  have c1 : ¬ (4096 : Int) < ((dl a).length : Int) + ((dl b).length : Int) - 1 := by omega
  refine ⟨z', ?_⟩
  rw [run_k G T hU.nat_Mul]
  by_cases k1 : (0 : Int) < ((dl a).length : Int)
  · by_cases k2 : (0 : Int) < ((dl b).length : Int)
    · repeat' (first | (simp (maxSteps := 1000000) only [evB, if_true, if_false, ne_eq, Nat.reduceEqDiff, Nat.reduceAdd, reduceCtorEq, Int.reduceLE, Int.reduceLT, Int.reduceEq, Int.reduceNeg, Int.reduceToNat, Int.reducePow, Int.reduceMod, Int.reduceDiv, Int.reduceSub, Int.reduceAdd, Int.reduceMul, Nat.reduceMul, Nat.reduceSub, Nat.reducePow, exB, resC_ptr, res_cell, nilb, nilf, faddr_p, c_nat_Mul, h1, h2, h3, c1, k1, k2]) | (simp (maxSteps := 1000000) (disch := first | with_reducible assumption | omega) only [dxB]) | (simp only [kI_d, kG_dt, kG_df]; split) | (simp only [kI_v, kG_vt, kG_vf]; split))
    · repeat' (first | (simp (maxSteps := 1000000) only [evB, if_true, if_false, ne_eq, Nat.reduceEqDiff, Nat.reduceAdd, reduceCtorEq, Int.reduceLE, Int.reduceLT, Int.reduceEq, Int.reduceNeg, Int.reduceToNat, Int.reducePow, Int.reduceMod, Int.reduceDiv, Int.reduceSub, Int.reduceAdd, Int.reduceMul, Nat.reduceMul, Nat.reduceSub, Nat.reducePow, exB, resC_ptr, res_cell, nilb, nilf, faddr_p, c_nat_Mul, h1, h2, h3, c1, k1, k2]) | (simp (maxSteps := 1000000) (disch := first | with_reducible assumption | omega) only [dxB]) | (simp only [kI_d, kG_dt, kG_df]; split) | (simp only [kI_v, kG_vt, kG_vf]; split))
  · repeat' (first | (simp (maxSteps := 1000000) only [evB, if_true, if_false, ne_eq, Nat.reduceEqDiff, Nat.reduceAdd, reduceCtorEq, Int.reduceLE, Int.reduceLT, Int.reduceEq, Int.reduceNeg, Int.reduceToNat, Int.reducePow, Int.reduceMod, Int.reduceDiv, Int.reduceSub, Int.reduceAdd, Int.reduceMul, Nat.reduceMul, Nat.reduceSub, Nat.reducePow, exB, resC_ptr, res_cell, nilb, nilf, faddr_p, c_nat_Mul, h1, h2, h3, c1, k1]) | (simp (maxSteps := 1000000) (disch := first | with_reducible assumption | omega) only [dxB]) | (simp only [kI_d, kG_dt, kG_df]; split) | (simp only [kI_v, kG_vt, kG_vf]; split))

theorem dyad_own (hU : HasG g T) {n z : Bool} {l : List Nat} {e : Int} (hl : l.length < 549755813888) : ∃ z', run G T 205 [A3 n (D z l) e] = some (A3 n (D z' l) e) := by
  apply exP
  rw [run_k G T hU.dyad_own]
  cases l with
  | nil =>
    simp only [A3] at *
    repeat' (first | (simp (maxSteps := 1000000) only [evB, if_true, if_false, ne_eq, Nat.reduceEqDiff, Nat.reduceAdd, reduceCtorEq, Int.reduceLE, Int.reduceLT, Int.reduceEq, Int.reduceNeg, Int.reduceToNat, Int.reducePow, Int.reduceMod, Int.reduceDiv, Int.reduceSub, Int.reduceAdd, Int.reduceMul, Nat.reduceMul, Nat.reduceSub, Nat.reducePow, exB, resC_ptr, res_cell, nilb, nilf, faddr_p, c_dyad_own, app_nil0]) | (simp (maxSteps := 1000000) (disch := first | with_reducible assumption | omega) only [dxB]) | (simp only [kI_d, kG_dt, kG_df]; split) | (simp only [kI_v, kG_vt, kG_vf]; split))
    exact ⟨_, rfl, true, rfl⟩
  | cons a l =>
    have ha : appV ⟨[⟨[.bool n, D z (a :: l), .int .i64 e], false⟩, ⟨[.bool false, .nil, .int .i64 0], false⟩], []⟩ 1 4 .nil (D z (a :: l)) =
        some (.own 2 0 (a :: l).length 1, ⟨[⟨[.bool n, D z (a :: l), .int .i64 e], false⟩, ⟨[.bool false, .nil, .int .i64 0], false⟩, ⟨cells (a :: l), false⟩], []⟩) :=
      app_nil (h := ⟨[⟨[.bool n, D z (a :: l), .int .i64 e], false⟩, ⟨[.bool false, .nil, .int .i64 0], false⟩], []⟩) (z := z) (l := a :: l) (by simp) hl
    simp only [A3] at *
    have hsub : sub (cells (a :: l)) 0 (l.length + 1) = some (cells (a :: l)) := sub_all (a :: l)
    repeat' (first | (simp (maxSteps := 1000000) only [evB, if_true, if_false, ne_eq, Nat.reduceEqDiff, Nat.reduceAdd, reduceCtorEq, Int.reduceLE, Int.reduceLT, Int.reduceEq, Int.reduceNeg, Int.reduceToNat, Int.reducePow, Int.reduceMod, Int.reduceDiv, Int.reduceSub, Int.reduceAdd, Int.reduceMul, Nat.reduceMul, Nat.reduceSub, Nat.reducePow, exB, resC_ptr, res_cell, nilb, nilf, faddr_p, c_dyad_own, ha, hsub, sl_cells]) | (simp (maxSteps := 1000000) (disch := first | with_reducible assumption | omega) only [dxB]) | (simp only [kI_d, kG_dt, kG_df]; split) | (simp only [kI_v, kG_vt, kG_vf]; split))
    exact ⟨_, rfl, false, rfl⟩

theorem dyad_signed (hU : HasG g T) {n z s : Bool} {l : List Nat} {e : Int} (hl : l.length < 549755813888) : ∃ z', run G T 198 [A3 n (D z l) e, .bool s] = some (A3 (s && decide (0 < l.length)) (D z' l) e) := by
  obtain ⟨z', h1⟩ := dyad_own (G := G) (T := T) hU (n := n) (z := z) (l := l) (e := e) hl
  refine ⟨z', ?_⟩
  rw [run_k G T hU.dyad_signed]
  have e1 : decide ((0 : Int) < (l.length : Int)) = decide (0 < l.length) := by congr 1; apply propext; omega
  simp only [A3] at *
  cases s <;> (repeat' (first | (simp (maxSteps := 1000000) only [evB, if_true, if_false, ne_eq, Nat.reduceEqDiff, Nat.reduceAdd, reduceCtorEq, Int.reduceLE, Int.reduceLT, Int.reduceEq, Int.reduceNeg, Int.reduceToNat, Int.reducePow, Int.reduceMod, Int.reduceDiv, Int.reduceSub, Int.reduceAdd, Int.reduceMul, Nat.reduceMul, Nat.reduceSub, Nat.reducePow, exB, resC_ptr, res_cell, nilb, nilf, faddr_p, c_dyad_signed, h1, e1]) | (simp (maxSteps := 1000000) (disch := first | with_reducible assumption | omega) only [dxB]) | (simp only [kI_d, kG_dt, kG_df]; split) | (simp only [kI_v, kG_vt, kG_vf]; split)); all_goals try rfl)

theorem dyad_Neg (hA : HasA g T) (hC : HasC g T) (hU : HasG g T) {z : Bool} {d : Dy} (hd : mayD d.n (dl d.m) d.e = true) : ∃ z', run G T 184 [DyA z d] = some (.tup [DyA z' (negD d), .int .i64 0]) := by
  obtain ⟨f1, f2, f3, f4, f5⟩ := mayD_facts hd
  have hl := (mayL_iff.1 f1).1
  have h1 := dyad_May (G := G) (T := T) hA hC d.n z (Dg_dl d.m) d.e
  rw [hd] at h1
  obtain ⟨z', h2⟩ := dyad_signed (G := G) (T := T) hU (n := d.n) (z := z) (s := !d.n) (l := dl d.m) (e := d.e) (by omega)
  refine ⟨z', ?_⟩
  have hv : A3 (!d.n && decide (0 < (dl d.m).length)) (D z' (dl d.m)) d.e = DyA z' (negD d) := by
    by_cases h0 : d.m = 0
    · have hz := f2 (dl_len0.2 h0)
      unfold negD
      rw [if_pos h0, DyA, hz.1, h0, dl_zero]; rfl
    · rw [neg_nm h0]
      have : 0 < (dl d.m).length := Nat.pos_of_ne_zero (fun hc => h0 (dl_len0.1 hc))
      rw [decide_eq_true this, Bool.and_true]; rfl
  rw [hv] at h2
  rw [run_k G T hU.dyad_Neg]
  obtain ⟨n, m, e⟩ := d
  simp only [DyA, A3] at *
  cases n <;> (simp only [Bool.not_true, Bool.not_false] at h2; repeat' (first | (simp (maxSteps := 1000000) only [evB, if_true, if_false, ne_eq, Nat.reduceEqDiff, Nat.reduceAdd, reduceCtorEq, Int.reduceLE, Int.reduceLT, Int.reduceEq, Int.reduceNeg, Int.reduceToNat, Int.reducePow, Int.reduceMod, Int.reduceDiv, Int.reduceSub, Int.reduceAdd, Int.reduceMul, Nat.reduceMul, Nat.reduceSub, Nat.reducePow, exB, resC_ptr, res_cell, nilb, nilf, faddr_p, c_dyad_Neg, h1, h2]) | (simp (maxSteps := 1000000) (disch := first | with_reducible assumption | omega) only [dxB]) | (simp only [kI_d, kG_dt, kG_df]; split) | (simp only [kI_v, kG_vt, kG_vf]; split)))

/-- The sum of two sizes with signs. -/
def joinD (p : Bool) (x : Nat) (q : Bool) (y : Nat) (e : Int) : Dy := if p = q then mkD p (x + y) e else if y ≤ x then mkD p (x - y) e else mkD q (y - x) e

theorem mk_rng {m : Nat} {e : Int} (hb : blen m ≤ 131072) (he : -16000000 < e ∧ e < 16000000) : m = 0 ∨ (-16777216 ≤ e + (tz m : Int) ∧ e + (tz m : Int) ≤ 16777216) := by
  by_cases h0 : m = 0
  · exact Or.inl h0
  · right; have := tz_blen h0; omega

theorem blen_add {x y : Nat} {K : Nat} (hx : blen x ≤ K) (hy : blen y ≤ K) : blen (x + y) ≤ K + 1 := by
  refine blen_le.2 ?_
  have h1 := blen_le.1 hx
  have h2 := blen_le.1 hy
  rw [Nat.pow_succ]; omega

theorem dyad_join (hA : HasA g T) (hG : Glob G g) (hC : HasC g T) (hU : HasG g T) {p q z y : Bool} {x w : Nat} {e : Int} (hx : blen x ≤ 131071) (hw : blen w ≤ 131071) (he : -16000000 < e ∧ e < 16000000) :
    ∃ z', run G T 208 [.bool p, D z (dl x), .bool q, D y (dl w), .int .i64 e] = some (.tup [DyA z' (joinD p x q w e), .int .i64 0]) := by
  have mx : mayL (dl x) = true := mayL_small (by omega)
  have mw : mayL (dl w) = true := mayL_small (by omega)
  have hxw := blen_add hx hw
  by_cases h1 : p = q
  · have hl := dl_len_blen (x + w)
    obtain ⟨z1, a1⟩ := nat_Add (G := G) (T := T) hA (z := z) (y := y) (a := x) (b := w) mx mw (by omega)
    obtain ⟨z2, a2⟩ := dyad_Make (G := G) (T := T) hA hG hC (n := p) (z := z1) (a := x + w) (e := e) (mayL_small (by omega)) (mk_rng (by omega) he) (by omega)
    refine ⟨z2, ?_⟩
    unfold joinD
    rw [if_pos h1, run_k G T hU.dyad_join]
    simp only [DyA, A3] at *
    subst h1
    cases p <;> repeat' (first | (simp (maxSteps := 1000000) only [evB, if_true, if_false, ne_eq, Nat.reduceEqDiff, Nat.reduceAdd, reduceCtorEq, Int.reduceLE, Int.reduceLT, Int.reduceEq, Int.reduceNeg, Int.reduceToNat, Int.reducePow, Int.reduceMod, Int.reduceDiv, Int.reduceSub, Int.reduceAdd, Int.reduceMul, Nat.reduceMul, Nat.reduceSub, Nat.reducePow, exB, resC_ptr, res_cell, nilb, nilf, faddr_p, c_dyad_join, a1, a2]) | (simp (maxSteps := 1000000) (disch := first | with_reducible assumption | omega) only [dxB]) | (simp only [kI_d, kG_dt, kG_df]; split) | (simp only [kI_v, kG_vt, kG_vf]; split))
  · have c0 := nat_Cmp (G := G) (T := T) hA (z := z) (y := y) (a := x) (b := w) mx mw
    by_cases h2 : w ≤ x
    · have hb := blen_mono (Nat.sub_le x w)
      have c1 : ¬ cmpN x w < 0 := by rw [cmpN_neg]; omega
      obtain ⟨z1, a1⟩ := nat_Sub (G := G) (T := T) hA (z := z) (y := y) (a := x) (b := w) mx mw h2
      obtain ⟨z2, a2⟩ := dyad_Make (G := G) (T := T) hA hG hC (n := p) (z := z1) (a := x - w) (e := e) (mayL_small (by omega)) (mk_rng (by omega) he) (by omega)
      refine ⟨z2, ?_⟩
      unfold joinD
      rw [if_neg h1, if_pos h2, run_k G T hU.dyad_join]
      simp only [DyA, A3] at *
      cases p <;> cases q <;> first | (exact absurd rfl h1) | (repeat' (first | (simp (maxSteps := 1000000) only [evB, if_true, if_false, ne_eq, Nat.reduceEqDiff, Nat.reduceAdd, reduceCtorEq, Int.reduceLE, Int.reduceLT, Int.reduceEq, Int.reduceNeg, Int.reduceToNat, Int.reducePow, Int.reduceMod, Int.reduceDiv, Int.reduceSub, Int.reduceAdd, Int.reduceMul, Nat.reduceMul, Nat.reduceSub, Nat.reducePow, exB, resC_ptr, res_cell, nilb, nilf, faddr_p, c_dyad_join, c0, c1, a1, a2]) | (simp (maxSteps := 1000000) (disch := first | with_reducible assumption | omega) only [dxB]) | (simp only [kI_d, kG_dt, kG_df]; split) | (simp only [kI_v, kG_vt, kG_vf]; split)))
    · have hb := blen_mono (Nat.sub_le w x)
      have c1 : cmpN x w < 0 := by rw [cmpN_neg]; omega
      obtain ⟨z1, a1⟩ := nat_Sub (G := G) (T := T) hA (z := y) (y := z) (a := w) (b := x) mw mx (by omega)
      obtain ⟨z2, a2⟩ := dyad_Make (G := G) (T := T) hA hG hC (n := q) (z := z1) (a := w - x) (e := e) (mayL_small (by omega)) (mk_rng (by omega) he) (by omega)
      refine ⟨z2, ?_⟩
      unfold joinD
      rw [if_neg h1, if_neg h2, run_k G T hU.dyad_join]
      simp only [DyA, A3] at *
      cases p <;> cases q <;> first | (exact absurd rfl h1) | (repeat' (first | (simp (maxSteps := 1000000) only [evB, if_true, if_false, ne_eq, Nat.reduceEqDiff, Nat.reduceAdd, reduceCtorEq, Int.reduceLE, Int.reduceLT, Int.reduceEq, Int.reduceNeg, Int.reduceToNat, Int.reducePow, Int.reduceMod, Int.reduceDiv, Int.reduceSub, Int.reduceAdd, Int.reduceMul, Nat.reduceMul, Nat.reduceSub, Nat.reducePow, exB, resC_ptr, res_cell, nilb, nilf, faddr_p, c_dyad_join, c0, c1, a1, a2]) | (simp (maxSteps := 1000000) (disch := first | with_reducible assumption | omega) only [dxB]) | (simp only [kI_d, kG_dt, kG_df]; split) | (simp only [kI_v, kG_vt, kG_vf]; split)))

theorem joinD_add {a b : Dy} (ha : a.m ≠ 0) (hb : b.m ≠ 0) (he : b.e ≤ a.e) : joinD a.n (a.m * 2 ^ (a.e - b.e).toNat) b.n b.m b.e = addD a b := by
  unfold joinD addD
  rw [if_neg ha, if_neg hb, Int.min_eq_right he, show (b.e - b.e).toNat = 0 by omega, Nat.pow_zero, Nat.mul_one]

theorem dyad_add_ord (hA : HasA g T) (hG : Glob G g) (hC : HasC g T) (hU : HasG g T) {z y : Bool} {a b : Dy} (ha : Bd a 16384) (hb : Bd b 16384) (na : a.m ≠ 0) (nb : b.m ≠ 0) (he : b.e ≤ a.e) :
    ∃ z', run G T 203 [DyA z a, DyA y b] = some (.tup [DyA z' (addD a b), .int .i64 0]) := by
  obtain ⟨a1, a2, a3⟩ := ha
  obtain ⟨b1, b2, b3⟩ := hb
  have ma : mayL (dl a.m) = true := mayL_small (by omega)
  have l1 := nat_Len (G := G) (T := T) hA (z := z) ma
  obtain ⟨z1, s1⟩ := nat_Shift_up (G := G) (T := T) hA (z := z) (a := a.m) (n := (a.e - b.e).toNat) ma (Or.inr (by omega)) (by omega)
  rw [show (((a.e - b.e).toNat : Nat) : Int) = a.e - b.e by omega] at s1
  have hbl := blen_mul na (a.e - b.e).toNat
  obtain ⟨z2, j1⟩ := dyad_join (G := G) (T := T) hA hG hC hU (p := a.n) (q := b.n) (z := z1) (y := y) (x := a.m * 2 ^ (a.e - b.e).toNat) (w := b.m) (e := b.e) (by omega) (by omega) (by omega)
  rw [joinD_add na nb he] at j1
  have c1 : ¬ ((dl a.m).length : Int) = 0 := fun hc => na (dl_len0.1 (by omega))
  have c2 : ¬ ((dl b.m).length : Int) = 0 := fun hc => nb (dl_len0.1 (by omega))
  have c3 : ¬ a.e < b.e := by omega
  have w1 : IntKind.i64.wrap (a.e - b.e) = a.e - b.e := wrap_i64 (by omega)
  have w2 : IntKind.i64.wrap (a.e - b.e + (blen a.m : Int)) = a.e - b.e + (blen a.m : Int) := wrap_i64 (by omega)
  have c4 : ¬ (131073 : Int) < a.e - b.e + (blen a.m : Int) := by omega
  have c5 : ¬ (131072 : Int) < a.e - b.e + (blen a.m : Int) := by omega
  refine ⟨z2, ?_⟩
  rw [run_k G T hU.dyad_add]
  generalize addD a b = d at *
  obtain ⟨n, m, e⟩ := a
  obtain ⟨n', m', e'⟩ := b
  clear hbl a1 a2 a3 b1 b2 b3
  simp only [DyA, A3] at *
  repeat' (first | (simp (maxSteps := 1000000) only [evB, if_true, if_false, ne_eq, Nat.reduceEqDiff, Nat.reduceAdd, reduceCtorEq, Int.reduceLE, Int.reduceLT, Int.reduceEq, Int.reduceNeg, Int.reduceToNat, Int.reducePow, Int.reduceMod, Int.reduceDiv, Int.reduceSub, Int.reduceAdd, Int.reduceMul, Nat.reduceMul, Nat.reduceSub, Nat.reducePow, exB, resC_ptr, res_cell, nilb, nilf, faddr_p, c_dyad_add, c1, c2, c3, c4, c5, w1, w2, l1, s1, j1]) | (simp (maxSteps := 1000000) (disch := first | with_reducible assumption | omega) only [dxB]) | (simp only [kI_d, kG_dt, kG_df]; split) | (simp only [kI_v, kG_vt, kG_vf]; split))

theorem dyad_add (hA : HasA g T) (hG : Glob G g) (hC : HasC g T) (hU : HasG g T) {z y : Bool} {a b : Dy} (ha : Bd a 16384) (hb : Bd b 16384) (za : Nz a) (zb : Nz b) :
    ∃ z', run G T 203 [DyA z a, DyA y b] = some (.tup [DyA z' (addD a b), .int .i64 0]) := by
  by_cases na : a.m = 0
  · have hl := dl_len_blen b.m
    have hbl := hb.bl
    obtain ⟨z1, h1⟩ := dyad_own (G := G) (T := T) hU (n := b.n) (z := y) (l := dl b.m) (e := b.e) (by omega)
    have c1 : ((dl a.m).length : Int) = 0 := by have := dl_len0.2 na; omega
    refine ⟨z1, ?_⟩
    rw [run_k G T hU.dyad_add]
    unfold addD
    rw [if_pos na]
    obtain ⟨n, m, e⟩ := a
    obtain ⟨n', m', e'⟩ := b
    simp only [DyA, A3] at *
    repeat' (first | (simp (maxSteps := 1000000) only [evB, if_true, if_false, ne_eq, Nat.reduceEqDiff, Nat.reduceAdd, reduceCtorEq, Int.reduceLE, Int.reduceLT, Int.reduceEq, Int.reduceNeg, Int.reduceToNat, Int.reducePow, Int.reduceMod, Int.reduceDiv, Int.reduceSub, Int.reduceAdd, Int.reduceMul, Nat.reduceMul, Nat.reduceSub, Nat.reducePow, exB, resC_ptr, res_cell, nilb, nilf, faddr_p, c_dyad_add, c1, h1]) | (simp (maxSteps := 1000000) (disch := first | with_reducible assumption | omega) only [dxB]) | (simp only [kI_d, kG_dt, kG_df]; split) | (simp only [kI_v, kG_vt, kG_vf]; split))
  · by_cases nb : b.m = 0
    · have hl := dl_len_blen a.m
      have hbl := ha.bl
      obtain ⟨z1, h1⟩ := dyad_own (G := G) (T := T) hU (n := a.n) (z := z) (l := dl a.m) (e := a.e) (by omega)
      have c1 : ¬ ((dl a.m).length : Int) = 0 := fun hc => na (dl_len0.1 (by omega))
      have c2 : ((dl b.m).length : Int) = 0 := by have := dl_len0.2 nb; omega
      refine ⟨z1, ?_⟩
      rw [run_k G T hU.dyad_add]
      unfold addD
      rw [if_neg na, if_pos nb]
      obtain ⟨n, m, e⟩ := a
      obtain ⟨n', m', e'⟩ := b
      simp only [DyA, A3] at *
      repeat' (first | (simp (maxSteps := 1000000) only [evB, if_true, if_false, ne_eq, Nat.reduceEqDiff, Nat.reduceAdd, reduceCtorEq, Int.reduceLE, Int.reduceLT, Int.reduceEq, Int.reduceNeg, Int.reduceToNat, Int.reducePow, Int.reduceMod, Int.reduceDiv, Int.reduceSub, Int.reduceAdd, Int.reduceMul, Nat.reduceMul, Nat.reduceSub, Nat.reducePow, exB, resC_ptr, res_cell, nilb, nilf, faddr_p, c_dyad_add, c1, c2, h1]) | (simp (maxSteps := 1000000) (disch := first | with_reducible assumption | omega) only [dxB]) | (simp only [kI_d, kG_dt, kG_df]; split) | (simp only [kI_v, kG_vt, kG_vf]; split))
    · by_cases he : b.e ≤ a.e
      · exact dyad_add_ord hA hG hC hU ha hb na nb he
      · obtain ⟨a1, a2, a3⟩ := ha
        obtain ⟨b1, b2, b3⟩ := hb
        have mb : mayL (dl b.m) = true := mayL_small (by omega)
        have l1 := nat_Len (G := G) (T := T) hA (z := y) mb
        obtain ⟨z1, s1⟩ := nat_Shift_up (G := G) (T := T) hA (z := y) (a := b.m) (n := (b.e - a.e).toNat) mb (Or.inr (by omega)) (by omega)
        rw [show (((b.e - a.e).toNat : Nat) : Int) = b.e - a.e by omega] at s1
        have hbl := blen_mul nb (b.e - a.e).toNat
        obtain ⟨z2, j1⟩ := dyad_join (G := G) (T := T) hA hG hC hU (p := b.n) (q := a.n) (z := z1) (y := z) (x := b.m * 2 ^ (b.e - a.e).toNat) (w := a.m) (e := a.e) (by omega) (by omega) (by omega)
        rw [joinD_add nb na (by omega), addD_comm zb za] at j1
        have c1 : ¬ ((dl a.m).length : Int) = 0 := fun hc => na (dl_len0.1 (by omega))
        have c2 : ¬ ((dl b.m).length : Int) = 0 := fun hc => nb (dl_len0.1 (by omega))
        have c3 : a.e < b.e := by omega
        have w1 : IntKind.i64.wrap (b.e - a.e) = b.e - a.e := wrap_i64 (by omega)
        have w2 : IntKind.i64.wrap (b.e - a.e + (blen b.m : Int)) = b.e - a.e + (blen b.m : Int) := wrap_i64 (by omega)
        have c4 : ¬ (131073 : Int) < b.e - a.e + (blen b.m : Int) := by omega
        have c5 : ¬ (131072 : Int) < b.e - a.e + (blen b.m : Int) := by omega
        refine ⟨z2, ?_⟩
        rw [run_k G T hU.dyad_add]
        generalize addD a b = d at *
        obtain ⟨n, m, e⟩ := a
        obtain ⟨n', m', e'⟩ := b
        clear hbl a1 a2 a3 b1 b2 b3
        simp only [DyA, A3] at *
        repeat' (first | (simp (maxSteps := 1000000) only [evB, if_true, if_false, ne_eq, Nat.reduceEqDiff, Nat.reduceAdd, reduceCtorEq, Int.reduceLE, Int.reduceLT, Int.reduceEq, Int.reduceNeg, Int.reduceToNat, Int.reducePow, Int.reduceMod, Int.reduceDiv, Int.reduceSub, Int.reduceAdd, Int.reduceMul, Nat.reduceMul, Nat.reduceSub, Nat.reducePow, exB, resC_ptr, res_cell, nilb, nilf, faddr_p, c_dyad_add, c1, c2, c3, c4, c5, w1, w2, l1, s1, j1]) | (simp (maxSteps := 1000000) (disch := first | with_reducible assumption | omega) only [dxB]) | (simp only [kI_d, kG_dt, kG_df]; split) | (simp only [kI_v, kG_vt, kG_vf]; split))

theorem dyad_Add (hA : HasA g T) (hG : Glob G g) (hC : HasC g T) (hU : HasG g T) {z y : Bool} {a b : Dy} (ha : Bd a 16384) (hb : Bd b 16384) (da : mayD a.n (dl a.m) a.e = true) (db : mayD b.n (dl b.m) b.e = true) :
    ∃ z', run G T 195 [DyA z a, DyA y b] = some (.tup [DyA z' (addD a b), .int .i64 0]) := by
  have h1 := dyad_both (G := G) (T := T) hA hC (n := a.n) (z := z) (n' := b.n) (z' := y) (Dg_dl a.m) (Dg_dl b.m) (e := a.e) (e' := b.e)
  rw [da, db, Bool.and_self] at h1
  obtain ⟨z', h2⟩ := dyad_add (G := G) (T := T) hA hG hC hU (z := z) (y := y) ha hb (mayD_nz da) (mayD_nz db)
  refine ⟨z', ?_⟩
  rw [run_k G T hU.dyad_Add]
  generalize addD a b = d at *
  obtain ⟨n, m, e⟩ := a
  obtain ⟨n', m', e'⟩ := b
  simp only [DyA, A3] at *
  repeat' (first | (simp (maxSteps := 1000000) only [evB, if_true, if_false, ne_eq, Nat.reduceEqDiff, Nat.reduceAdd, reduceCtorEq, Int.reduceLE, Int.reduceLT, Int.reduceEq, Int.reduceNeg, Int.reduceToNat, Int.reducePow, Int.reduceMod, Int.reduceDiv, Int.reduceSub, Int.reduceAdd, Int.reduceMul, Nat.reduceMul, Nat.reduceSub, Nat.reducePow, exB, resC_ptr, res_cell, nilb, nilf, faddr_p, c_dyad_Add, h1, h2]) | (simp (maxSteps := 1000000) (disch := first | with_reducible assumption | omega) only [dxB]) | (simp only [kI_d, kG_dt, kG_df]; split) | (simp only [kI_v, kG_vt, kG_vf]; split))

theorem dyad_Mul (hA : HasA g T) (hG : Glob G g) (hC : HasC g T) (hU : HasG g T) {z y : Bool} {a b : Dy} (ha : Bd a 16384) (hb : Bd b 16384) (da : mayD a.n (dl a.m) a.e = true) (db : mayD b.n (dl b.m) b.e = true) :
    ∃ z', run G T 182 [DyA z a, DyA y b] = some (.tup [DyA z' (mulD a b), .int .i64 0]) := by
  have h1 := dyad_both (G := G) (T := T) hA hC (n := a.n) (z := z) (n' := b.n) (z' := y) (Dg_dl a.m) (Dg_dl b.m) (e := a.e) (e' := b.e)
  rw [da, db, Bool.and_self] at h1
  obtain ⟨a1, a2, a3⟩ := ha
  obtain ⟨b1, b2, b3⟩ := hb
  have hl1 := dl_len_blen a.m
  have hl2 := dl_len_blen b.m
  obtain ⟨z1, h2⟩ := nat_Mul (G := G) (T := T) hA hU (z := z) (y := y) (a := a.m) (b := b.m) (mayL_small (by omega)) (mayL_small (by omega)) (by omega)
  have hb : blen (a.m * b.m) ≤ 32768 := by have := blen_mulC a1 b1; omega
  obtain ⟨z2, h3⟩ := dyad_Make (G := G) (T := T) hA hG hC (n := a.n != b.n) (z := z1) (a := a.m * b.m) (e := a.e + b.e) (mayL_small (by omega)) (mk_rng (by omega) (by omega)) (by omega)
  have w1 : IntKind.i64.wrap (a.e + b.e) = a.e + b.e := wrap_i64 (by omega)
  refine ⟨z2, ?_⟩
  rw [run_k G T hU.dyad_Mul]
  unfold mulD
  clear hb
  obtain ⟨n, m, e⟩ := a
  obtain ⟨n', m', e'⟩ := b
  have hne : (n != n') = !decide (n = n') := by cases n <;> cases n' <;> rfl
  simp only at *
  rw [hne] at h3 ⊢
  simp only [DyA, A3] at *
  repeat' (first | (simp (maxSteps := 1000000) only [evB, if_true, if_false, ne_eq, Nat.reduceEqDiff, Nat.reduceAdd, reduceCtorEq, Int.reduceLE, Int.reduceLT, Int.reduceEq, Int.reduceNeg, Int.reduceToNat, Int.reducePow, Int.reduceMod, Int.reduceDiv, Int.reduceSub, Int.reduceAdd, Int.reduceMul, Nat.reduceMul, Nat.reduceSub, Nat.reducePow, exB, resC_ptr, res_cell, nilb, nilf, faddr_p, c_dyad_Mul, h1, h2, w1, h3]) | (simp (maxSteps := 1000000) (disch := first | with_reducible assumption | omega) only [dxB]) | (simp only [kI_d, kG_dt, kG_df]; split) | (simp only [kI_v, kG_vt, kG_vf]; split))
end Go.Cv

/-
  The program's words: fields, classes, values.
-/
namespace Go.Cv
variable {G : Nat → Option (List AV)} {T : Tbl} {g : Nat}

theorem andn_nat {w k : Nat} (hk : k < 64) (hw : w < 2 ^ (k + 1)) : w &&& (2 ^ 64 - (2 ^ k + 1)) = w % 2 ^ k := by
  apply Nat.eq_of_testBit_eq
  intro i
  have hp : (2 : Nat) ^ k < 2 ^ 64 := Nat.pow_lt_pow_right (by decide) hk
  rw [Nat.testBit_and, Nat.testBit_mod_two_pow, Nat.testBit_two_pow_sub_succ hp, Nat.testBit_two_pow]
  by_cases h1 : i < k
  · rw [decide_eq_true h1, decide_eq_true (show i < 64 by omega), decide_eq_false (show ¬ k = i by omega)]; simp
  · rw [decide_eq_false h1]
    by_cases h2 : i = k
    · rw [decide_eq_true h2.symm]; simp
    · have : w.testBit i = false := Nat.testBit_lt_two_pow (Nat.lt_of_lt_of_le hw (Nat.pow_le_pow_right (by decide) (by omega)))
      rw [this]; simp
theorem andn64 {w k : Nat} (hk : k < 64) (hw : w < 2 ^ (k + 1)) : andNotI .u64 (w : Int) ((2 ^ k : Nat) : Int) = ((w % 2 ^ k : Nat) : Int) := by
  have hp : (2 : Nat) ^ k < 2 ^ 64 := Nat.pow_lt_pow_right (by decide) hk
  have hw2 : w < 2 ^ 64 := Nat.lt_of_lt_of_le hw (Nat.pow_le_pow_right (by decide) (by omega))
  have hlt : w % 2 ^ k < 2 ^ k := Nat.mod_lt _ (Nat.two_pow_pos k)
  rw [andNotI_eq]
  show IntKind.u64.wrap ((BitVec.ofInt 64 (w : Int) &&& ~~~BitVec.ofInt 64 ((2 ^ k : Nat) : Int)).toNat : Int) = _
  rw [show BitVec.ofInt 64 (w : Int) = BitVec.ofNat 64 w from rfl, show BitVec.ofInt 64 ((2 ^ k : Nat) : Int) = BitVec.ofNat 64 (2 ^ k) from rfl, BitVec.toNat_and, BitVec.toNat_not, BitVec.toNat_ofNat, BitVec.toNat_ofNat, Nat.mod_eq_of_lt hw2, Nat.mod_eq_of_lt hp,
    show 2 ^ 64 - 1 - 2 ^ k = 2 ^ 64 - (2 ^ k + 1) by omega, andn_nat hk hw, wrap_u64]
  omega
theorem andn_s {w : Nat} (h : w < 4294967296) : andNotI .u64 (w : Int) 2147483648 = ((w % 2147483648 : Nat) : Int) := andn64 (k := 31) (by decide) h
theorem andn_d {w : Nat} (h : w < 18446744073709551616) : andNotI .u64 (w : Int) 9223372036854775808 = ((w % 9223372036854775808 : Nat) : Int) := andn64 (k := 63) (by decide) h
theorem and_pow_lo {w k : Nat} (hw : w < 2 ^ k) : w &&& 2 ^ k = 0 := by
  apply Nat.eq_of_testBit_eq
  intro i
  rw [Nat.testBit_and, Nat.testBit_two_pow, Nat.zero_testBit]
  by_cases h : k = i
  · subst h; rw [Nat.testBit_lt_two_pow hw]; rfl
  · rw [decide_eq_false h, Bool.and_false]
theorem and_pow_hi {w k : Nat} (h1 : 2 ^ k ≤ w) (hw : w < 2 ^ (k + 1)) : w &&& 2 ^ k = 2 ^ k := by
  apply Nat.eq_of_testBit_eq
  intro i
  rw [Nat.testBit_and, Nat.testBit_two_pow]
  rw [Nat.pow_succ] at hw
  by_cases h : k = i
  · subst h
    have : w / 2 ^ k = 1 := Nat.div_eq_of_lt_le (by omega) (by omega)
    rw [Nat.testBit_eq_decide_div_mod_eq, this]; rfl
  · rw [decide_eq_false h, Bool.and_false]
theorem and_bit {w k : Nat} (hk : k < 64) (hw : w < 2 ^ (k + 1)) : andI .u64 (w : Int) ((2 ^ k : Nat) : Int) = if 2 ^ k ≤ w then ((2 ^ k : Nat) : Int) else 0 := by
  have hp : (2 : Nat) ^ k < 2 ^ 64 := Nat.pow_lt_pow_right (by decide) hk
  have hw2 : w < 2 ^ 64 := Nat.lt_of_lt_of_le hw (Nat.pow_le_pow_right (by decide) (by omega))
  rw [and64 (by omega) (by omega)]
  by_cases h : 2 ^ k ≤ w
  · rw [if_pos h, and_pow_hi h hw]
  · rw [if_neg h, and_pow_lo (by omega)]; rfl
theorem and_s {w : Nat} (h : w < 4294967296) : andI .u64 (w : Int) 2147483648 = if 2147483648 ≤ w then 2147483648 else 0 := and_bit (k := 31) (by decide) h
theorem and_d {w : Nat} (h : w < 18446744073709551616) : andI .u64 (w : Int) 9223372036854775808 = if 9223372036854775808 ≤ w then 9223372036854775808 else 0 := and_bit (k := 63) (by decide) h
theorem and_ms {w : Nat} (h : w < 18446744073709551616) : andI .u64 (w : Int) 8388607 = ((w % 8388608 : Nat) : Int) := and_mask (j := 23) h (by decide)
theorem and_md {w : Nat} (h : w < 18446744073709551616) : andI .u64 (w : Int) 4503599627370495 = ((w % 4503599627370496 : Nat) : Int) := and_mask (j := 52) h (by decide)
theorem or_s : orI .u64 2147483648 2147483647 = 4294967295 := by rw [orI_eq]; rfl
theorem or_d : orI .u64 9223372036854775808 9223372036854775807 = 18446744073709551615 := by rw [orI_eq]; rfl
theorem or_ns : orI .u64 2139095040 4194304 = 2143289344 := by rw [orI_eq]; rfl
theorem or_nd : orI .u64 9218868437227405312 2251799813685248 = 9221120237041090560 := by rw [orI_eq]; rfl

theorem wop_loop (e : Env) (h : Heap) : evL G T c_word_open_l1 e h = kS G T (evL G T c_word_open_b1 (keepE [4, 6, 18, 19, 20] e) h) c_word_open_l1 := s_loopc G T rfl e h
theorem ia11 (x : AV) (k : IntKind) : iaddrV 1 (.imm 1 [x]) (.int k 0) = some (.iptr [x] 0) := rfl
theorem rd11 (h : Mem) (x : AV) : rdAt G h 1 (.iptr [x] 0) = some [x] := rfl

theorem word_open1 (hT : HasD g T) (F : Fm) {w : Nat} (hw : w < 18446744073709551616) : run G T 95 [.int .u8 F.u, .imm 1 [.int .u64 (w : Int)]] = some (.tup [shA F, .int .i64 (if w < 2 * F.sg then 0 else 6)]) := by
  rw [run_k G T hT.word_open]
  have h1 := word_shapeOf (G := G) hT F
  have wr : IntKind.i64.wrap 1 = 1 := rfl
  by_cases hk : w < 2 * F.sg
  · rw [if_pos hk]
    cases F
    · simp only [shA, Fm.u, Fm.fr, Fm.sg, Fm.most, Int.cast_ofNat_Int, Nat.reduceMul] at *
      have c1 : ¬ (4294967295 : Int) < (w : Int) := by omega
      repeat' (first | (simp (maxSteps := 1000000) only [evB, if_true, if_false, ne_eq, Nat.reduceEqDiff, Nat.reduceAdd, reduceCtorEq, Int.reduceLE, Int.reduceLT, Int.reduceEq, Int.reduceNeg, Int.reduceToNat, Int.reducePow, Int.reduceMod, Int.reduceDiv, Int.reduceSub, Int.reduceAdd, Int.reduceMul, Nat.reduceMul, Nat.reduceSub, Nat.reducePow, exB, resC_ptr, res_cell, nilb, nilf, faddr_p, c_word_open, h1, wop_loop, c_word_open_b1, ia11, rd11, or_s, or_d, c1, wr]) | (simp (maxSteps := 1000000) (disch := first | with_reducible assumption | omega) only [dxB]) | (simp only [kI_d, kG_dt, kG_df]; split) | (simp only [kI_v, kG_vt, kG_vf]; split))
    · simp only [shA, Fm.u, Fm.fr, Fm.sg, Fm.most, Int.cast_ofNat_Int, Nat.reduceMul] at *
      have c1 : ¬ (18446744073709551615 : Int) < (w : Int) := by omega
      repeat' (first | (simp (maxSteps := 1000000) only [evB, if_true, if_false, ne_eq, Nat.reduceEqDiff, Nat.reduceAdd, reduceCtorEq, Int.reduceLE, Int.reduceLT, Int.reduceEq, Int.reduceNeg, Int.reduceToNat, Int.reducePow, Int.reduceMod, Int.reduceDiv, Int.reduceSub, Int.reduceAdd, Int.reduceMul, Nat.reduceMul, Nat.reduceSub, Nat.reducePow, exB, resC_ptr, res_cell, nilb, nilf, faddr_p, c_word_open, h1, wop_loop, c_word_open_b1, ia11, rd11, or_s, or_d, c1, wr]) | (simp (maxSteps := 1000000) (disch := first | with_reducible assumption | omega) only [dxB]) | (simp only [kI_d, kG_dt, kG_df]; split) | (simp only [kI_v, kG_vt, kG_vf]; split))
  · rw [if_neg hk]
    cases F
    · simp only [shA, Fm.u, Fm.fr, Fm.sg, Fm.most, Int.cast_ofNat_Int, Nat.reduceMul] at *
      have c1 : (4294967295 : Int) < (w : Int) := by omega
      repeat' (first | (simp (maxSteps := 1000000) only [evB, if_true, if_false, ne_eq, Nat.reduceEqDiff, Nat.reduceAdd, reduceCtorEq, Int.reduceLE, Int.reduceLT, Int.reduceEq, Int.reduceNeg, Int.reduceToNat, Int.reducePow, Int.reduceMod, Int.reduceDiv, Int.reduceSub, Int.reduceAdd, Int.reduceMul, Nat.reduceMul, Nat.reduceSub, Nat.reducePow, exB, resC_ptr, res_cell, nilb, nilf, faddr_p, c_word_open, h1, wop_loop, c_word_open_b1, ia11, rd11, or_s, or_d, c1, wr]) | (simp (maxSteps := 1000000) (disch := first | with_reducible assumption | omega) only [dxB]) | (simp only [kI_d, kG_dt, kG_df]; split) | (simp only [kI_v, kG_vt, kG_vf]; split))
    · simp only [Fm.sg] at hk; omega

theorem cls_spec (F : Fm) (w : Nat) : (F.ex w = 0 ∧ F.fc w = 0 ∧ F.cls w = 1) ∨ (F.ex w = 0 ∧ F.fc w ≠ 0 ∧ F.cls w = 2) ∨ (F.ex w ≠ 0 ∧ F.ex w < F.most ∧ F.cls w = 3) ∨ (F.ex w ≠ 0 ∧ ¬ F.ex w < F.most ∧ F.fc w = 0 ∧ F.cls w = 4) ∨ (F.ex w ≠ 0 ∧ ¬ F.ex w < F.most ∧ F.fc w ≠ 0 ∧ F.cls w = 5) := by
  unfold Fm.cls
  generalize F.ex w = x
  generalize F.fc w = y
  repeat' split
  all_goals omega
theorem ng_spec (F : Fm) (w : Nat) : (F.ng w = true ∧ F.sg ≤ w) ∨ (F.ng w = false ∧ w < F.sg) := by
  unfold Fm.ng
  by_cases h : F.sg ≤ w
  · left; exact ⟨decide_eq_true h, h⟩
  · right; exact ⟨decide_eq_false h, by omega⟩

theorem word_class (hD : HasD g T) (hU : HasG g T) (F : Fm) {w : Nat} (hw : w < 2 * F.sg) : run G T 201 [shA F, .int .u64 (w : Int)] = some (.int .u8 (F.cls w)) := by
  rw [run_k G T hU.word_shape_class]
  obtain ⟨q1, q2, q3, q4⟩ := w_split hw
  have hc := cls_spec F w
  have hlt : w % F.sg < F.sg := Nat.mod_lt _ (by cases F <;> decide)
  clear q1
  generalize F.cls w = c at *
  generalize F.ex w = x at *
  generalize F.fc w = y at *
  cases F
  · have h2 := andn_s (w := w) hw
    have hi := word_inf (G := G) (T := T) hD .s
    simp only [shA, Fm.u, Fm.fr, Fm.sg, Fm.most, Int.cast_ofNat_Int, Nat.reducePow, Nat.reduceMul] at *
    generalize w % 2147483648 = s at *
    repeat' (first | (simp (maxSteps := 1000000) only [evB, if_true, if_false, ne_eq, Nat.reduceEqDiff, Nat.reduceAdd, reduceCtorEq, Int.reduceLE, Int.reduceLT, Int.reduceEq, Int.reduceNeg, Int.reduceToNat, Int.reducePow, Int.reduceMod, Int.reduceDiv, Int.reduceSub, Int.reduceAdd, Int.reduceMul, Nat.reduceMul, Nat.reduceSub, Nat.reducePow, exB, resC_ptr, res_cell, nilb, nilf, faddr_p, c_word_shape_class, h2, hi]) | (simp (maxSteps := 1000000) (disch := first | with_reducible assumption | omega) only [dxB]) | (simp only [kI_d, kG_dt, kG_df]; split) | (simp only [kI_v, kG_vt, kG_vf]; split))
    all_goals (refine some_int ?_; omega)
  · have h2 := andn_d (w := w) hw
    have hi := word_inf (G := G) (T := T) hD .d
    simp only [shA, Fm.u, Fm.fr, Fm.sg, Fm.most, Int.cast_ofNat_Int, Nat.reducePow, Nat.reduceMul] at *
    generalize w % 9223372036854775808 = s at *
    repeat' (first | (simp (maxSteps := 1000000) only [evB, if_true, if_false, ne_eq, Nat.reduceEqDiff, Nat.reduceAdd, reduceCtorEq, Int.reduceLE, Int.reduceLT, Int.reduceEq, Int.reduceNeg, Int.reduceToNat, Int.reducePow, Int.reduceMod, Int.reduceDiv, Int.reduceSub, Int.reduceAdd, Int.reduceMul, Nat.reduceMul, Nat.reduceSub, Nat.reducePow, exB, resC_ptr, res_cell, nilb, nilf, faddr_p, c_word_shape_class, h2, hi]) | (simp (maxSteps := 1000000) (disch := first | with_reducible assumption | omega) only [dxB]) | (simp only [kI_d, kG_dt, kG_df]; split) | (simp only [kI_v, kG_vt, kG_vf]; split))
    all_goals (refine some_int ?_; omega)

theorem word_split (hU : HasG g T) (F : Fm) {w : Nat} (hw : w < 2 * F.sg) : run G T 200 [shA F, .int .u64 (w : Int)] = some (fldA (F.ng w) (F.ex w) (F.fc w)) := by
  rw [run_k G T hU.word_shape_split]
  have hlt : w % F.sg < F.sg := Nat.mod_lt _ (by cases F <;> decide)
  have hn := ng_spec F w
  have e2 : w % F.sg / 2 ^ F.fr = F.ex w := rfl
  have e3 : w % F.sg % 2 ^ F.fr = F.fc w := rfl
  have q4 := (w_split hw).2.2.2
  generalize F.ng w = n at *
  generalize F.ex w = x at *
  generalize F.fc w = y at *
  cases F
  · have h2 := andn_s (w := w) hw
    have h4 := and_s (w := w) hw
    simp only [shA, Fm.u, Fm.fr, Fm.sg, Fm.most, fldA, Int.cast_ofNat_Int, Nat.reducePow] at *
    generalize w % 2147483648 = s at *
    have h5 := and_ms (w := s) (by omega)
    rw [e3] at h5
    have w1 : (s : Int) / 8388608 = (x : Int) := by omega
    rcases hn with ⟨rfl, hn⟩ | ⟨rfl, hn⟩
    · rw [if_pos hn] at h4
      repeat' (first | (simp (maxSteps := 1000000) only [evB, if_true, if_false, ne_eq, Nat.reduceEqDiff, Nat.reduceAdd, reduceCtorEq, Int.reduceLE, Int.reduceLT, Int.reduceEq, Int.reduceNeg, Int.reduceToNat, Int.reducePow, Int.reduceMod, Int.reduceDiv, Int.reduceSub, Int.reduceAdd, Int.reduceMul, Nat.reduceMul, Nat.reduceSub, Nat.reducePow, exB, resC_ptr, res_cell, nilb, nilf, faddr_p, c_word_shape_split, h2, h4, h5, w1]) | (simp (maxSteps := 1000000) (disch := first | with_reducible assumption | omega) only [dxB]) | (simp only [kI_d, kG_dt, kG_df]; split) | (simp only [kI_v, kG_vt, kG_vf]; split))
    · rw [if_neg (by omega)] at h4
      repeat' (first | (simp (maxSteps := 1000000) only [evB, if_true, if_false, ne_eq, Nat.reduceEqDiff, Nat.reduceAdd, reduceCtorEq, Int.reduceLE, Int.reduceLT, Int.reduceEq, Int.reduceNeg, Int.reduceToNat, Int.reducePow, Int.reduceMod, Int.reduceDiv, Int.reduceSub, Int.reduceAdd, Int.reduceMul, Nat.reduceMul, Nat.reduceSub, Nat.reducePow, exB, resC_ptr, res_cell, nilb, nilf, faddr_p, c_word_shape_split, h2, h4, h5, w1]) | (simp (maxSteps := 1000000) (disch := first | with_reducible assumption | omega) only [dxB]) | (simp only [kI_d, kG_dt, kG_df]; split) | (simp only [kI_v, kG_vt, kG_vf]; split))
  · have h2 := andn_d (w := w) hw
    have h4 := and_d (w := w) hw
    simp only [shA, Fm.u, Fm.fr, Fm.sg, Fm.most, fldA, Int.cast_ofNat_Int, Nat.reducePow] at *
    generalize w % 9223372036854775808 = s at *
    have h5 := and_md (w := s) (by omega)
    rw [e3] at h5
    have w1 : (s : Int) / 4503599627370496 = (x : Int) := by omega
    rcases hn with ⟨rfl, hn⟩ | ⟨rfl, hn⟩
    · rw [if_pos hn] at h4
      repeat' (first | (simp (maxSteps := 1000000) only [evB, if_true, if_false, ne_eq, Nat.reduceEqDiff, Nat.reduceAdd, reduceCtorEq, Int.reduceLE, Int.reduceLT, Int.reduceEq, Int.reduceNeg, Int.reduceToNat, Int.reducePow, Int.reduceMod, Int.reduceDiv, Int.reduceSub, Int.reduceAdd, Int.reduceMul, Nat.reduceMul, Nat.reduceSub, Nat.reducePow, exB, resC_ptr, res_cell, nilb, nilf, faddr_p, c_word_shape_split, h2, h4, h5, w1]) | (simp (maxSteps := 1000000) (disch := first | with_reducible assumption | omega) only [dxB]) | (simp only [kI_d, kG_dt, kG_df]; split) | (simp only [kI_v, kG_vt, kG_vf]; split))
    · rw [if_neg (by omega)] at h4
      repeat' (first | (simp (maxSteps := 1000000) only [evB, if_true, if_false, ne_eq, Nat.reduceEqDiff, Nat.reduceAdd, reduceCtorEq, Int.reduceLE, Int.reduceLT, Int.reduceEq, Int.reduceNeg, Int.reduceToNat, Int.reducePow, Int.reduceMod, Int.reduceDiv, Int.reduceSub, Int.reduceAdd, Int.reduceMul, Nat.reduceMul, Nat.reduceSub, Nat.reducePow, exB, resC_ptr, res_cell, nilb, nilf, faddr_p, c_word_shape_split, h2, h4, h5, w1]) | (simp (maxSteps := 1000000) (disch := first | with_reducible assumption | omega) only [dxB]) | (simp only [kI_d, kG_dt, kG_df]; split) | (simp only [kI_v, kG_vt, kG_vf]; split))

theorem sg_64 {F : Fm} {w : Nat} (h : w < 2 * F.sg) : w < 18446744073709551616 := by
  have : 2 * F.sg ≤ 18446744073709551616 := by cases F <;> decide
  omega

theorem word_Class (hD : HasD g T) (hU : HasG g T) (F : Fm) {w : Nat} (hw : w < 2 * F.sg) : run G T 193 [.int .u8 F.u, .int .u64 (w : Int)] = some (.tup [.int .u8 (F.cls w), .int .i64 0]) := by
  rw [run_k G T hU.word_Class]
  have h1 := word_open1 (G := G) (T := T) hD F (sg_64 hw)
  rw [if_pos hw] at h1
  have h2 := word_class (G := G) (T := T) hD hU F hw
  generalize F.cls w = c at *
  simp only [shA] at *
  repeat' (first | (simp (maxSteps := 1000000) only [evB, if_true, if_false, ne_eq, Nat.reduceEqDiff, Nat.reduceAdd, reduceCtorEq, Int.reduceLE, Int.reduceLT, Int.reduceEq, Int.reduceNeg, Int.reduceToNat, Int.reducePow, Int.reduceMod, Int.reduceDiv, Int.reduceSub, Int.reduceAdd, Int.reduceMul, Nat.reduceMul, Nat.reduceSub, Nat.reducePow, exB, resC_ptr, res_cell, nilb, nilf, faddr_p, c_word_Class, h1, h2]) | (simp (maxSteps := 1000000) (disch := first | with_reducible assumption | omega) only [dxB]) | (simp only [kI_d, kG_dt, kG_df]; split) | (simp only [kI_v, kG_vt, kG_vf]; split))

theorem word_Split (hD : HasD g T) (hU : HasG g T) (F : Fm) {w : Nat} (hw : w < 2 * F.sg) : run G T 192 [.int .u8 F.u, .int .u64 (w : Int)] = some (.tup [fldA (F.ng w) (F.ex w) (F.fc w), .int .i64 0]) := by
  rw [run_k G T hU.word_Split]
  have h1 := word_open1 (G := G) (T := T) hD F (sg_64 hw)
  rw [if_pos hw] at h1
  have h2 := word_split (G := G) (T := T) hU F hw
  generalize F.ng w = n at *
  generalize F.ex w = x at *
  generalize F.fc w = y at *
  simp only [shA, fldA] at *
  repeat' (first | (simp (maxSteps := 1000000) only [evB, if_true, if_false, ne_eq, Nat.reduceEqDiff, Nat.reduceAdd, reduceCtorEq, Int.reduceLE, Int.reduceLT, Int.reduceEq, Int.reduceNeg, Int.reduceToNat, Int.reducePow, Int.reduceMod, Int.reduceDiv, Int.reduceSub, Int.reduceAdd, Int.reduceMul, Nat.reduceMul, Nat.reduceSub, Nat.reducePow, exB, resC_ptr, res_cell, nilb, nilf, faddr_p, c_word_Split, h1, h2]) | (simp (maxSteps := 1000000) (disch := first | with_reducible assumption | omega) only [dxB]) | (simp only [kI_d, kG_dt, kG_df]; split) | (simp only [kI_v, kG_vt, kG_vf]; split))
theorem word_finite (hD : HasD g T) (hU : HasG g T) (F : Fm) {w : Nat} (hw : w < 2 * F.sg) : run G T 202 [.int .u8 F.u, .int .u64 (w : Int)] = some (.tup [shA F, .int .i64 (if F.fin w then 0 else 7)]) := by
  rw [run_k G T hU.word_finite]
  have h1 := word_open1 (G := G) (T := T) hD F (sg_64 hw)
  rw [if_pos hw] at h1
  have h2 := word_class (G := G) (T := T) hD hU F hw
  have h3 := fin_iff (F := F) (w := w)
  have h4 := cls_range F w
  by_cases hf : F.fin w
  · rw [if_pos hf]
    have h5 := h3.1 hf
    clear h3
    generalize F.cls w = c at *
    have c1 : ¬ (4 : Int) ≤ c := by omega
    simp only [shA] at *
    repeat' (first | (simp (maxSteps := 1000000) only [evB, if_true, if_false, ne_eq, Nat.reduceEqDiff, Nat.reduceAdd, reduceCtorEq, Int.reduceLE, Int.reduceLT, Int.reduceEq, Int.reduceNeg, Int.reduceToNat, Int.reducePow, Int.reduceMod, Int.reduceDiv, Int.reduceSub, Int.reduceAdd, Int.reduceMul, Nat.reduceMul, Nat.reduceSub, Nat.reducePow, exB, resC_ptr, res_cell, nilb, nilf, faddr_p, c_word_finite, h1, h2, c1]) | (simp (maxSteps := 1000000) (disch := first | with_reducible assumption | omega) only [dxB]) | (simp only [kI_d, kG_dt, kG_df]; split) | (simp only [kI_v, kG_vt, kG_vf]; split))
  · rw [if_neg hf]
    have h5 : ¬ (F.cls w = 1 ∨ F.cls w = 2 ∨ F.cls w = 3) := fun h => hf (h3.2 h)
    clear h3
    generalize F.cls w = c at *
    have c1 : (4 : Int) ≤ c := by omega
    simp only [shA] at *
    repeat' (first | (simp (maxSteps := 1000000) only [evB, if_true, if_false, ne_eq, Nat.reduceEqDiff, Nat.reduceAdd, reduceCtorEq, Int.reduceLE, Int.reduceLT, Int.reduceEq, Int.reduceNeg, Int.reduceToNat, Int.reducePow, Int.reduceMod, Int.reduceDiv, Int.reduceSub, Int.reduceAdd, Int.reduceMul, Nat.reduceMul, Nat.reduceSub, Nat.reducePow, exB, resC_ptr, res_cell, nilb, nilf, faddr_p, c_word_finite, h1, h2, c1]) | (simp (maxSteps := 1000000) (disch := first | with_reducible assumption | omega) only [dxB]) | (simp only [kI_d, kG_dt, kG_df]; split) | (simp only [kI_v, kG_vt, kG_vf]; split))

theorem or_fr {y k : Nat} (h : y < 2 ^ k) (hk : k < 63) : orI .u64 (y : Int) ((2 ^ k : Nat) : Int) = ((2 ^ k + y : Nat) : Int) := by
  have hp : (2 : Nat) ^ k < 2 ^ 64 := Nat.pow_lt_pow_right (by decide) (by omega)
  have e := or_add (c := y) (x := 1) (s := k) h
  rw [Nat.one_mul] at e
  rw [or64 (by omega) (by omega), e, Nat.add_comm]

theorem word_Value (hA : HasA g T) (hG : Glob G g) (hC : HasC g T) (hD : HasD g T) (hU : HasG g T) (F : Fm) {w : Nat} (hw : w < 2 * F.sg) :
    ∃ z k, run G T 194 [.int .u8 F.u, .int .u64 (w : Int)] = some (.tup [DyA z (F.vl w), .int .i64 k]) := by
  have h1 := word_finite (G := G) (T := T) hD hU F hw
  by_cases hf : F.fin w
  · rw [if_pos hf] at h1
    have h2 := word_split (G := G) (T := T) hU F hw
    have h3 := word_low (G := G) (T := T) hD F
    have hy : F.fc w < 2 ^ F.fr := Nat.mod_lt _ (Nat.two_pow_pos _)
    have hp : 2 ^ F.fr ≤ 4503599627370496 := by cases F <;> decide
    have hF := fm_facts F
    have hm : F.most ≤ 2047 := by cases F <;> decide
    have hvl : F.vl w = F.val w := if_pos hf
    rw [hvl]
    unfold Fm.fin at hf
    unfold Fm.val
    have hor := or_fr hy (by omega)
    generalize F.ex w = x at *
    generalize F.fc w = y at *
    generalize F.ng w = n at *
    have hb1 : blen y ≤ 53 := blen_le.2 (by omega)
    have hb2 : blen (2 ^ F.fr + y) ≤ 53 := blen_le.2 (by omega)
    have hmin : min F.fr 64 = F.fr := by omega
    have hp0 := Nat.two_pow_pos F.fr
    by_cases h0 : x = 0
    · subst h0
      obtain ⟨z1, o1⟩ := nat_Of (G := G) (T := T) hA (n := y) (by omega)
      obtain ⟨z2, o2⟩ := dyad_Make (G := G) (T := T) hA hG hC (n := n) (z := z1) (a := y) (e := F.low) (mayL_small (by omega)) (mk_rng (by omega) (by omega)) (by omega)
      have w1 : max (0 : Int) 1 = 1 := by decide
      have w2 : IntKind.i64.wrap (1 - 1) = 0 := rfl
      have w3 : IntKind.i64.wrap (0 + F.low) = F.low := by rw [Int.zero_add]; exact wrap_i64 (by omega)
      have w4 : IntKind.i64.wrap F.low = F.low := wrap_i64 (by omega)
      refine ⟨z2, 0, ?_⟩
      rw [if_pos rfl, run_k G T hU.word_Value]
      simp only [shA, fldA, cast0, DyA, A3] at *
      repeat' (first | (simp (maxSteps := 1000000) only [evB, if_true, if_false, ne_eq, Nat.reduceEqDiff, Nat.reduceAdd, reduceCtorEq, Int.reduceLE, Int.reduceLT, Int.reduceEq, Int.reduceNeg, Int.reduceToNat, Int.reducePow, Int.reduceMod, Int.reduceDiv, Int.reduceSub, Int.reduceAdd, Int.reduceMul, Nat.reduceMul, Nat.reduceSub, Nat.reducePow, exB, resC_ptr, res_cell, nilb, nilf, faddr_p, c_word_Value, h1, h2, h3, o1, w1, w2, w3, w4, mm_max2, o2, Int.zero_add]) | (simp (maxSteps := 1000000) (disch := first | with_reducible assumption | omega) only [dxB]) | (simp only [kI_d, kG_dt, kG_df]; split) | (simp only [kI_v, kG_vt, kG_vf]; split))
    · obtain ⟨z1, o1⟩ := nat_Of (G := G) (T := T) hA (n := 2 ^ F.fr + y) (by omega)
      obtain ⟨z2, o2⟩ := dyad_Make (G := G) (T := T) hA hG hC (n := n) (z := z1) (a := 2 ^ F.fr + y) (e := x - 1 + F.low) (mayL_small (by omega)) (mk_rng (by omega) (by omega)) (by omega)
      have c0 : (0 : Int) < (x : Int) := by omega
      have w1 : max (x : Int) 1 = x := by omega
      have w2 : IntKind.i64.wrap ((x : Int) - 1) = x - 1 := wrap_i64 (by omega)
      have w3 : IntKind.i64.wrap ((x : Int) - 1 + F.low) = x - 1 + F.low := wrap_i64 (by omega)
      have w5 : (1 * (2 : Int) ^ F.fr) % 18446744073709551616 = ((2 ^ F.fr : Nat) : Int) := by rw [pow_cast]; omega
      have w6 : ((2 : Int) ^ F.fr) % 18446744073709551616 = ((2 ^ F.fr : Nat) : Int) := by rw [pow_cast]; omega
      refine ⟨z2, 0, ?_⟩
      rw [if_neg h0, run_k G T hU.word_Value]
      simp only [shA, fldA, DyA, A3] at *
      repeat' (first | (simp (maxSteps := 1000000) only [evB, if_true, if_false, ne_eq, Nat.reduceEqDiff, Nat.reduceAdd, reduceCtorEq, Int.reduceLE, Int.reduceLT, Int.reduceEq, Int.reduceNeg, Int.reduceToNat, Int.reducePow, Int.reduceMod, Int.reduceDiv, Int.reduceSub, Int.reduceAdd, Int.reduceMul, Nat.reduceMul, Nat.reduceSub, Nat.reducePow, exB, resC_ptr, res_cell, nilb, nilf, faddr_p, c_word_Value, h1, h2, h3, c0, hmin, w5, w6, hor, o1, w1, w2, w3, mm_max2, o2]) | (simp (maxSteps := 1000000) (disch := first | with_reducible assumption | omega) only [dxB]) | (simp only [kI_d, kG_dt, kG_df]; split) | (simp only [kI_v, kG_vt, kG_vf]; split))
  · rw [if_neg hf] at h1
    refine ⟨true, 7, ?_⟩
    have hvl : F.vl w = ⟨false, 0, 0⟩ := if_neg hf
    rw [hvl, run_k G T hU.word_Value]
    simp only [shA, DyA, A3, dl_zero] at *
    repeat' (first | (simp (maxSteps := 1000000) only [evB, if_true, if_false, ne_eq, Nat.reduceEqDiff, Nat.reduceAdd, reduceCtorEq, Int.reduceLE, Int.reduceLT, Int.reduceEq, Int.reduceNeg, Int.reduceToNat, Int.reducePow, Int.reduceMod, Int.reduceDiv, Int.reduceSub, Int.reduceAdd, Int.reduceMul, Nat.reduceMul, Nat.reduceSub, Nat.reducePow, exB, resC_ptr, res_cell, nilb, nilf, faddr_p, c_word_Value, h1]) | (simp (maxSteps := 1000000) (disch := first | with_reducible assumption | omega) only [dxB]) | (simp only [kI_d, kG_dt, kG_df]; split) | (simp only [kI_v, kG_vt, kG_vf]; split))
    all_goals try rfl

theorem word_none (hU : HasG g T) (hD : HasD g T) (F : Fm) : run G T 204 [shA F] = some (.int .u64 (F.nan : Int)) := by
  rw [run_k G T hU.word_shape_none]
  have h := word_inf (G := G) hD F
  cases F <;> (
    simp only [shA, Fm.u, Fm.fr, Fm.sg, Fm.most, Fm.nan, Int.cast_ofNat_Int, Nat.reducePow, Nat.reduceMul, Nat.reduceSub, Nat.reduceAdd] at *
    repeat' (first | (simp (maxSteps := 1000000) only [evB, if_true, if_false, ne_eq, Nat.reduceEqDiff, Nat.reduceAdd, reduceCtorEq, Int.reduceLE, Int.reduceLT, Int.reduceEq, Int.reduceNeg, Int.reduceToNat, Int.reducePow, Int.reduceMod, Int.reduceDiv, Int.reduceSub, Int.reduceAdd, Int.reduceMul, Nat.reduceMul, Nat.reduceSub, Nat.reducePow, exB, resC_ptr, res_cell, nilb, nilf, faddr_p, c_word_shape_none, h, or_ns, or_nd]) | (simp (maxSteps := 1000000) (disch := first | with_reducible assumption | omega) only [dxB]) | (simp only [kI_d, kG_dt, kG_df]; split) | (simp only [kI_v, kG_vt, kG_vf]; split)))
theorem word_None (hU : HasG g T) (hD : HasD g T) (F : Fm) : run G T 196 [.int .u8 F.u] = some (.tup [.int .u64 (F.nan : Int), .int .i64 0]) := by
  rw [run_k G T hU.word_None]
  have h := word_named (G := G) hD F (n := false) (k := 204) (word_none hU hD F) (by cases F <;> decide)
  rw [show F.nan + F.sgn false = F.nan from rfl] at h
  repeat' (first | (simp (maxSteps := 1000000) only [evB, if_true, if_false, ne_eq, Nat.reduceEqDiff, Nat.reduceAdd, reduceCtorEq, Int.reduceLE, Int.reduceLT, Int.reduceEq, Int.reduceNeg, Int.reduceToNat, Int.reducePow, Int.reduceMod, Int.reduceDiv, Int.reduceSub, Int.reduceAdd, Int.reduceMul, Nat.reduceMul, Nat.reduceSub, Nat.reducePow, exB, resC_ptr, res_cell, nilb, nilf, faddr_p, c_word_None, h]) | (simp (maxSteps := 1000000) (disch := first | with_reducible assumption | omega) only [dxB]) | (simp only [kI_d, kG_dt, kG_df]; split) | (simp only [kI_v, kG_vt, kG_vf]; split))
end Go.Cv

/-
  The document's sums, products, quotients, roots of words.
-/
namespace Go.Cv
variable {G : Nat → Option (List AV)} {T : Tbl} {g : Nat}

theorem Nz_mul (a b : Dy) : Nz (mulD a b) := Nz_mk _ _ _
theorem Bd_mul {a b : Dy} {K : Nat} (ha : Bd a K) (hb : Bd b K) : Bd (mulD a b) (4 * K) := by
  obtain ⟨a1, a2, a3⟩ := ha
  obtain ⟨b1, b2, b3⟩ := hb
  have hb : blen (a.m * b.m) ≤ 2 * K := by
    refine blen_le.2 ?_
    rw [show 2 * K = K + K by omega, Nat.pow_add]
    exact Nat.mul_lt_mul_of_lt_of_lt (blen_le.1 a1) (blen_le.1 b1)
  exact Bd_mk (by omega) (by omega) (by omega)
theorem mayD_nzb {d : Dy} (h : Nz d) (b : Bd d 131072) : mayD d.n (dl d.m) d.e = true := by
  obtain ⟨b1, b2, b3⟩ := b
  have hm : mayL (dl d.m) = true := mayL_small b1
  simp only [mayD, hm, Bool.true_and]
  by_cases h0 : d.m = 0
  · rw [h.1 h0, dl_zero]; rfl
  · have h1 : ¬ (dl d.m).length = 0 := fun hc => h0 (dl_len0.1 hc)
    rw [if_neg h1, dg0]
    have h2 := h.2 h0
    simp only [Bool.and_eq_true, decide_eq_true_eq]
    exact ⟨h2, by omega, by omega⟩
theorem vl_val {F : Fm} {w : Nat} (h : F.fin w) : F.vl w = F.val w := if_pos h

end Go.Cv

/-
  The document's products, quotients, roots of words.
-/
namespace Go.Cv
variable {G : Nat → Option (List AV)} {T : Tbl} {g : Nat}

end Go.Cv

/-
  The program's words, taken apart for a sum, a product, a quotient.
-/
namespace Go.Cv
variable {G : Nat → Option (List AV)} {T : Tbl} {g : Nat}

def apB (bs : List Blk) (f : List Nat) (b n : Nat) (o : Option Blk) (w : Option (List AV)) : Option (AV × Heap) :=
  match w with
  | some nw => match o with
    | some k => if k.dead = false ∧ f.contains b = false ∧ n * 5 ≤ k.cs.length ∧ (n + 1) * 49 ≤ boundBytes then some (.own bs.length 0 (n + 1) 5, ⟨bs.set b ⟨k.cs, true⟩ ++ [⟨k.cs.take (n * 5) ++ nw, false⟩], f⟩) else none
    | none => none
  | none => none
theorem ap_x (bs : List Blk) (f : List Nat) (b n c : Nat) : appV ⟨bs, f⟩ 5 48 (.own b 0 n 5) (.own c 0 1 5) = apB bs f b n (bs[b]?) (subB (bs[c]?) 0 5) := by
  have h1 := rdBlk_x bs f c 0 5
  simp only [appV, sliceCells, if_true, Nat.one_mul, h1]
  cases subB (bs[c]?) 0 5 with
  | none => rfl
  | some nw =>
    simp only [Option.map_some, apB]
    cases bs[b]? with
    | none => rfl
    | some k => simp
theorem ap_0 (bs : List Blk) (b : Nat) (cs nw : List AV) : apB bs [] b 0 (some ⟨cs, false⟩) (some nw) = some (.own bs.length 0 1 5, ⟨bs.set b ⟨cs, true⟩ ++ [⟨nw, false⟩], []⟩) := by
  simp [apB, boundBytes]
theorem ap_1 (bs : List Blk) (b : Nat) (x1 x2 x3 x4 x5 : AV) (nw : List AV) : apB bs [] b 1 (some ⟨[x1, x2, x3, x4, x5], false⟩) (some nw) = some (.own bs.length 0 2 5, ⟨bs.set b ⟨[x1, x2, x3, x4, x5], true⟩ ++ [⟨x1 :: x2 :: x3 :: x4 :: x5 :: nw, false⟩], []⟩) := by
  simp [apB, boundBytes]
theorem ap_2 (bs : List Blk) (b : Nat) (x1 x2 x3 x4 x5 y1 y2 y3 y4 y5 : AV) (nw : List AV) : apB bs [] b 2 (some ⟨[x1, x2, x3, x4, x5, y1, y2, y3, y4, y5], false⟩) (some nw) = some (.own bs.length 0 3 5, ⟨bs.set b ⟨[x1, x2, x3, x4, x5, y1, y2, y3, y4, y5], true⟩ ++ [⟨x1 :: x2 :: x3 :: x4 :: x5 :: y1 :: y2 :: y3 :: y4 :: y5 :: nw, false⟩], []⟩) := by
  simp [apB, boundBytes]
theorem st_bs5 (F : CallF) (d : Option Nat) (os : List IOper) (e : Env) (h : Heap) (n : Nat) (zero : List AV) (ps : List (Nat × Nat × IOpd)) : evOps G F (⟨d, .bslice n 5 zero ps, none⟩ :: os) e h =
    kBs G F (fillA (repA n zero) (ps.map fun (o, n, x) => (o, n, opd e x))) (.own h.b.length 0 n 5) d os e h := st_bslice G F d os e h n 5 zero ps
theorem so_loop (e : Env) (h : Heap) : evL G T c_soft_open_l1 e h = kS G T (evL G T c_soft_open_b1 (keepE [0, 10, 31, 32, 33] e) h) c_soft_open_l1 := s_loopc G T rfl e h
theorem iw20 (x y : AV) (k : IntKind) : iaddrV 1 (.imm 2 [x, y]) (.int k 0) = some (.iptr [x, y] 0) := rfl
theorem iw21 (x y : AV) (k : IntKind) : iaddrV 1 (.imm 2 [x, y]) (.int k 1) = some (.iptr [x, y] 1) := rfl
theorem iw30 (x y z : AV) (k : IntKind) : iaddrV 1 (.imm 3 [x, y, z]) (.int k 0) = some (.iptr [x, y, z] 0) := rfl
theorem iw31 (x y z : AV) (k : IntKind) : iaddrV 1 (.imm 3 [x, y, z]) (.int k 1) = some (.iptr [x, y, z] 1) := rfl
theorem iw32 (x y z : AV) (k : IntKind) : iaddrV 1 (.imm 3 [x, y, z]) (.int k 2) = some (.iptr [x, y, z] 2) := rfl
theorem rp_0 (h : Mem) (x : AV) (l : List AV) : rdAt G h 1 (.iptr (x :: l) 0) = some [x] := by simp [rdAt]
theorem rp_1 (h : Mem) (x y : AV) (l : List AV) : rdAt G h 1 (.iptr (x :: y :: l) 1) = some [y] := by simp [rdAt]
theorem rp_2 (h : Mem) (x y z : AV) (l : List AV) : rdAt G h 1 (.iptr (x :: y :: z :: l) 2) = some [z] := by simp [rdAt]
theorem repA_3 (z : List AV) : repA 3 z = z ++ (z ++ z) := by simp [repA]
theorem wr_1 : IntKind.i64.wrap (0 + 1) = 1 := rfl
theorem wr_2 : IntKind.i64.wrap (1 + 1) = 2 := rfl
theorem wr_3 : IntKind.i64.wrap (2 + 1) = 3 := rfl
theorem wr1 : IntKind.i64.wrap 1 = 1 := rfl
theorem wr2 : IntKind.i64.wrap 2 = 2 := rfl
theorem wr3 : IntKind.i64.wrap 3 = 3 := rfl

/-- A part: class, sign, value. -/
def ptC (F : Fm) (w : Nat) (z : Bool) : List AV := [.int .u8 (F.cls w), .bool (F.ng w), .bool (F.vl w).n, D z (dl (F.vl w).m), .int .i64 (F.vl w).e]

set_option maxHeartbeats 8000000 in
theorem soft_open2 (hA : HasA g T) (hG : Glob G g) (hC : HasC g T) (hD : HasD g T) (hE : HasE g T) (hU : HasG g T) (F : Fm) {md : Int} (hm : 1 ≤ md ∧ md ≤ 5) {a : Nat} {b : Nat} (ha : a < 2 * F.sg) (hb : b < 2 * F.sg) :
    ∃ z1 z2, run G T 176 [.int .u8 F.u, .int .u8 md, .imm 2 [.int .u64 (a : Int), .int .u64 (b : Int)]] = some (.tup [.imm 2 (ptC F a z1 ++ ptC F b z2), .int .i64 0]) := by
  have o1 := round_Over (G := G) (T := T) hD hE F hm (neg := false)
  have s1 := word_Split (G := G) (T := T) hD hU F ha
  have c1 := word_Class (G := G) (T := T) hD hU F ha
  obtain ⟨z1, k1, v1⟩ := word_Value (G := G) (T := T) hA hG hC hD hU F ha
  have s2 := word_Split (G := G) (T := T) hD hU F hb
  have c2 := word_Class (G := G) (T := T) hD hU F hb
  obtain ⟨z2, k2, v2⟩ := word_Value (G := G) (T := T) hA hG hC hD hU F hb
  refine ⟨z1, z2, ?_⟩
  rw [run_k G T hU.soft_open]
  unfold ptC
  generalize F.cls a = ca' at *
  generalize F.ng a = na' at *
  generalize F.ex a = xa' at *
  generalize F.fc a = ya' at *
  generalize F.vl a = va' at *
  generalize F.cls b = cb' at *
  generalize F.ng b = nb' at *
  generalize F.ex b = xb' at *
  generalize F.fc b = yb' at *
  generalize F.vl b = vb' at *
  simp only [fldA, DyA, A3, List.cons_append, List.nil_append] at *
  repeat' (first | (simp (maxSteps := 1000000) only [evB, if_true, if_false, ne_eq, Nat.reduceEqDiff, Nat.reduceAdd, reduceCtorEq, Int.reduceLE, Int.reduceLT, Int.reduceEq, Int.reduceNeg, Int.reduceToNat, Int.reducePow, Int.reduceMod, Int.reduceDiv, Int.reduceSub, Int.reduceAdd, Int.reduceMul, Nat.reduceMul, Nat.reduceSub, Nat.reducePow, exB, resC_ptr, res_cell, nilb, nilf, faddr_p, c_soft_open, st_bs5, o1, s1, c1, v1, s2, c2, v2, so_loop, c_soft_open_b1, iw20, iw21, rp_0, rp_1, ap_0, ap_1, wr_1, wr1, wr_2, wr2, repA_2, ap_x, List.set_cons_zero, List.set_cons_succ, List.cons_append, List.nil_append ]) | (simp (maxSteps := 1000000) (disch := first | with_reducible assumption | omega) only [dxB,  kM_int]) | (simp only [kI_d, kG_dt, kG_df]; split) | (simp only [kI_v, kG_vt, kG_vf]; split))
set_option maxHeartbeats 8000000 in
theorem soft_open3 (hA : HasA g T) (hG : Glob G g) (hC : HasC g T) (hD : HasD g T) (hE : HasE g T) (hU : HasG g T) (F : Fm) {md : Int} (hm : 1 ≤ md ∧ md ≤ 5) {a : Nat} {b : Nat} {c : Nat} (ha : a < 2 * F.sg) (hb : b < 2 * F.sg) (hc : c < 2 * F.sg) :
    ∃ z1 z2 z3, run G T 176 [.int .u8 F.u, .int .u8 md, .imm 3 [.int .u64 (a : Int), .int .u64 (b : Int), .int .u64 (c : Int)]] = some (.tup [.imm 3 (ptC F a z1 ++ ptC F b z2 ++ ptC F c z3), .int .i64 0]) := by
  have o1 := round_Over (G := G) (T := T) hD hE F hm (neg := false)
  have s1 := word_Split (G := G) (T := T) hD hU F ha
  have c1 := word_Class (G := G) (T := T) hD hU F ha
  obtain ⟨z1, k1, v1⟩ := word_Value (G := G) (T := T) hA hG hC hD hU F ha
  have s2 := word_Split (G := G) (T := T) hD hU F hb
  have c2 := word_Class (G := G) (T := T) hD hU F hb
  obtain ⟨z2, k2, v2⟩ := word_Value (G := G) (T := T) hA hG hC hD hU F hb
  have s3 := word_Split (G := G) (T := T) hD hU F hc
  have c3 := word_Class (G := G) (T := T) hD hU F hc
  obtain ⟨z3, k3, v3⟩ := word_Value (G := G) (T := T) hA hG hC hD hU F hc
  refine ⟨z1, z2, z3, ?_⟩
  rw [run_k G T hU.soft_open]
  unfold ptC
  generalize F.cls a = ca' at *
  generalize F.ng a = na' at *
  generalize F.ex a = xa' at *
  generalize F.fc a = ya' at *
  generalize F.vl a = va' at *
  generalize F.cls b = cb' at *
  generalize F.ng b = nb' at *
  generalize F.ex b = xb' at *
  generalize F.fc b = yb' at *
  generalize F.vl b = vb' at *
  generalize F.cls c = cc' at *
  generalize F.ng c = nc' at *
  generalize F.ex c = xc' at *
  generalize F.fc c = yc' at *
  generalize F.vl c = vc' at *
  simp only [fldA, DyA, A3, List.cons_append, List.nil_append] at *
  repeat' (first | (simp (maxSteps := 1000000) only [evB, if_true, if_false, ne_eq, Nat.reduceEqDiff, Nat.reduceAdd, reduceCtorEq, Int.reduceLE, Int.reduceLT, Int.reduceEq, Int.reduceNeg, Int.reduceToNat, Int.reducePow, Int.reduceMod, Int.reduceDiv, Int.reduceSub, Int.reduceAdd, Int.reduceMul, Nat.reduceMul, Nat.reduceSub, Nat.reducePow, exB, resC_ptr, res_cell, nilb, nilf, faddr_p, c_soft_open, st_bs5, o1, s1, c1, v1, s2, c2, v2, s3, c3, v3, so_loop, c_soft_open_b1, iw30, iw31, iw32, rp_0, rp_1, rp_2, ap_0, ap_1, ap_2, wr_1, wr1, wr_2, wr2, wr_3, wr3, repA_3, ap_x, List.set_cons_zero, List.set_cons_succ, List.cons_append, List.nil_append ]) | (simp (maxSteps := 1000000) (disch := first | with_reducible assumption | omega) only [dxB,  kM_int]) | (simp only [kI_d, kG_dt, kG_df]; split) | (simp only [kI_v, kG_vt, kG_vf]; split))
end Go.Cv

/-
  The program's sums of parts.
-/
namespace Go.Cv
variable {G : Nat → Option (List AV)} {T : Tbl} {g : Nat}

theorem hs_loop (e : Env) (h : Heap) : evL G T c_soft_has_l1 e h = kS G T (evL G T c_soft_has_b1 (keepE [0, 7, 8, 9] e) h) c_soft_has_l1 := s_loopc G T rfl e h
section
variable (a1 a2 a3 a4 a5 b1 b2 b3 b4 b5 c1 c2 c3 c4 c5 : AV) (k : IntKind)
theorem i5_20 : iaddrV 5 (.imm 2 [a1, a2, a3, a4, a5, b1, b2, b3, b4, b5]) (.int k 0) = some (.iptr [a1, a2, a3, a4, a5, b1, b2, b3, b4, b5] 0) := rfl
theorem i5_21 : iaddrV 5 (.imm 2 [a1, a2, a3, a4, a5, b1, b2, b3, b4, b5]) (.int k 1) = some (.iptr [a1, a2, a3, a4, a5, b1, b2, b3, b4, b5] 5) := rfl
theorem i5_30 : iaddrV 5 (.imm 3 [a1, a2, a3, a4, a5, b1, b2, b3, b4, b5, c1, c2, c3, c4, c5]) (.int k 0) = some (.iptr [a1, a2, a3, a4, a5, b1, b2, b3, b4, b5, c1, c2, c3, c4, c5] 0) := rfl
theorem i5_31 : iaddrV 5 (.imm 3 [a1, a2, a3, a4, a5, b1, b2, b3, b4, b5, c1, c2, c3, c4, c5]) (.int k 1) = some (.iptr [a1, a2, a3, a4, a5, b1, b2, b3, b4, b5, c1, c2, c3, c4, c5] 5) := rfl
theorem i5_32 : iaddrV 5 (.imm 3 [a1, a2, a3, a4, a5, b1, b2, b3, b4, b5, c1, c2, c3, c4, c5]) (.int k 2) = some (.iptr [a1, a2, a3, a4, a5, b1, b2, b3, b4, b5, c1, c2, c3, c4, c5] 10) := rfl
theorem r5_0 (h : Mem) (l : List AV) : rdAt G h 5 (.iptr (a1 :: a2 :: a3 :: a4 :: a5 :: l) 0) = some [a1, a2, a3, a4, a5] := by simp [rdAt]
theorem r5_5 (h : Mem) (l : List AV) : rdAt G h 5 (.iptr (a1 :: a2 :: a3 :: a4 :: a5 :: b1 :: b2 :: b3 :: b4 :: b5 :: l) 5) = some [b1, b2, b3, b4, b5] := by simp [rdAt]
theorem r5_10 (h : Mem) (l : List AV) : rdAt G h 5 (.iptr (a1 :: a2 :: a3 :: a4 :: a5 :: b1 :: b2 :: b3 :: b4 :: b5 :: c1 :: c2 :: c3 :: c4 :: c5 :: l) 10) = some [c1, c2, c3, c4, c5] := by simp [rdAt]
end

theorem soft_has2 (hU : HasG g T) {k c c' : Int} {n s n' s' z z' : Bool} {l l' : List Nat} {e e' : Int} :
    run G T 178 [.int .u8 k, .imm 2 [.int .u8 c, .bool n, .bool s, D z l, .int .i64 e, .int .u8 c', .bool n', .bool s', D z' l', .int .i64 e']] = some (.bool (decide (c = k ∨ c' = k))) := by
  rw [run_k G T hU.soft_has]
  by_cases h1 : c = k
  · rw [decide_eq_true (Or.inl h1)]
    repeat' (first | (simp (maxSteps := 1000000) only [evB, if_true, if_false, ne_eq, Nat.reduceEqDiff, Nat.reduceAdd, reduceCtorEq, Int.reduceLE, Int.reduceLT, Int.reduceEq, Int.reduceNeg, Int.reduceToNat, Int.reducePow, Int.reduceMod, Int.reduceDiv, Int.reduceSub, Int.reduceAdd, Int.reduceMul, Nat.reduceMul, Nat.reduceSub, Nat.reducePow, exB, resC_ptr, res_cell, nilb, nilf, faddr_p, c_soft_has, hs_loop, c_soft_has_b1, i5_20, i5_21, r5_0, r5_5, wr_1, wr1, wr_2, wr2, h1]) | (simp (maxSteps := 1000000) (disch := first | with_reducible assumption | omega) only [dxB]) | (simp only [kI_d, kG_dt, kG_df]; split) | (simp only [kI_v, kG_vt, kG_vf]; split))
  · by_cases h2 : c' = k
    · rw [decide_eq_true (Or.inr h2)]
      repeat' (first | (simp (maxSteps := 1000000) only [evB, if_true, if_false, ne_eq, Nat.reduceEqDiff, Nat.reduceAdd, reduceCtorEq, Int.reduceLE, Int.reduceLT, Int.reduceEq, Int.reduceNeg, Int.reduceToNat, Int.reducePow, Int.reduceMod, Int.reduceDiv, Int.reduceSub, Int.reduceAdd, Int.reduceMul, Nat.reduceMul, Nat.reduceSub, Nat.reducePow, exB, resC_ptr, res_cell, nilb, nilf, faddr_p, c_soft_has, hs_loop, c_soft_has_b1, i5_20, i5_21, r5_0, r5_5, wr_1, wr1, wr_2, wr2, h1, h2]) | (simp (maxSteps := 1000000) (disch := first | with_reducible assumption | omega) only [dxB]) | (simp only [kI_d, kG_dt, kG_df]; split) | (simp only [kI_v, kG_vt, kG_vf]; split))
    · rw [decide_eq_false (by omega)]
      repeat' (first | (simp (maxSteps := 1000000) only [evB, if_true, if_false, ne_eq, Nat.reduceEqDiff, Nat.reduceAdd, reduceCtorEq, Int.reduceLE, Int.reduceLT, Int.reduceEq, Int.reduceNeg, Int.reduceToNat, Int.reducePow, Int.reduceMod, Int.reduceDiv, Int.reduceSub, Int.reduceAdd, Int.reduceMul, Nat.reduceMul, Nat.reduceSub, Nat.reducePow, exB, resC_ptr, res_cell, nilb, nilf, faddr_p, c_soft_has, hs_loop, c_soft_has_b1, i5_20, i5_21, r5_0, r5_5, wr_1, wr1, wr_2, wr2, h1, h2]) | (simp (maxSteps := 1000000) (disch := first | with_reducible assumption | omega) only [dxB]) | (simp only [kI_d, kG_dt, kG_df]; split) | (simp only [kI_v, kG_vt, kG_vf]; split))
set_option maxHeartbeats 2000000 in
theorem soft_has3 (hU : HasG g T) {k c c' c'' : Int} {n s n' s' n'' s'' z z' z'' : Bool} {l l' l'' : List Nat} {e e' e'' : Int} :
    run G T 178 [.int .u8 k, .imm 3 [.int .u8 c, .bool n, .bool s, D z l, .int .i64 e, .int .u8 c', .bool n', .bool s', D z' l', .int .i64 e', .int .u8 c'', .bool n'', .bool s'', D z'' l'', .int .i64 e'']] = some (.bool (decide (c = k ∨ c' = k ∨ c'' = k))) := by
  rw [run_k G T hU.soft_has]
  by_cases h1 : c = k
  · rw [decide_eq_true (Or.inl h1)]
    repeat' (first | (simp (maxSteps := 1000000) only [evB, if_true, if_false, ne_eq, Nat.reduceEqDiff, Nat.reduceAdd, reduceCtorEq, Int.reduceLE, Int.reduceLT, Int.reduceEq, Int.reduceNeg, Int.reduceToNat, Int.reducePow, Int.reduceMod, Int.reduceDiv, Int.reduceSub, Int.reduceAdd, Int.reduceMul, Nat.reduceMul, Nat.reduceSub, Nat.reducePow, exB, resC_ptr, res_cell, nilb, nilf, faddr_p, c_soft_has, hs_loop, c_soft_has_b1, i5_30, i5_31, i5_32, r5_0, r5_5, r5_10, wr_1, wr1, wr_2, wr2, wr_3, wr3, h1]) | (simp (maxSteps := 1000000) (disch := first | with_reducible assumption | omega) only [dxB]) | (simp only [kI_d, kG_dt, kG_df]; split) | (simp only [kI_v, kG_vt, kG_vf]; split))
  · by_cases h2 : c' = k
    · rw [decide_eq_true (Or.inr (Or.inl h2))]
      repeat' (first | (simp (maxSteps := 1000000) only [evB, if_true, if_false, ne_eq, Nat.reduceEqDiff, Nat.reduceAdd, reduceCtorEq, Int.reduceLE, Int.reduceLT, Int.reduceEq, Int.reduceNeg, Int.reduceToNat, Int.reducePow, Int.reduceMod, Int.reduceDiv, Int.reduceSub, Int.reduceAdd, Int.reduceMul, Nat.reduceMul, Nat.reduceSub, Nat.reducePow, exB, resC_ptr, res_cell, nilb, nilf, faddr_p, c_soft_has, hs_loop, c_soft_has_b1, i5_30, i5_31, i5_32, r5_0, r5_5, r5_10, wr_1, wr1, wr_2, wr2, wr_3, wr3, h1, h2]) | (simp (maxSteps := 1000000) (disch := first | with_reducible assumption | omega) only [dxB]) | (simp only [kI_d, kG_dt, kG_df]; split) | (simp only [kI_v, kG_vt, kG_vf]; split))
    · by_cases h3 : c'' = k
      · rw [decide_eq_true (Or.inr (Or.inr h3))]
        repeat' (first | (simp (maxSteps := 1000000) only [evB, if_true, if_false, ne_eq, Nat.reduceEqDiff, Nat.reduceAdd, reduceCtorEq, Int.reduceLE, Int.reduceLT, Int.reduceEq, Int.reduceNeg, Int.reduceToNat, Int.reducePow, Int.reduceMod, Int.reduceDiv, Int.reduceSub, Int.reduceAdd, Int.reduceMul, Nat.reduceMul, Nat.reduceSub, Nat.reducePow, exB, resC_ptr, res_cell, nilb, nilf, faddr_p, c_soft_has, hs_loop, c_soft_has_b1, i5_30, i5_31, i5_32, r5_0, r5_5, r5_10, wr_1, wr1, wr_2, wr2, wr_3, wr3, h1, h2, h3]) | (simp (maxSteps := 1000000) (disch := first | with_reducible assumption | omega) only [dxB]) | (simp only [kI_d, kG_dt, kG_df]; split) | (simp only [kI_v, kG_vt, kG_vf]; split))
      · rw [decide_eq_false (by omega)]
        repeat' (first | (simp (maxSteps := 1000000) only [evB, if_true, if_false, ne_eq, Nat.reduceEqDiff, Nat.reduceAdd, reduceCtorEq, Int.reduceLE, Int.reduceLT, Int.reduceEq, Int.reduceNeg, Int.reduceToNat, Int.reducePow, Int.reduceMod, Int.reduceDiv, Int.reduceSub, Int.reduceAdd, Int.reduceMul, Nat.reduceMul, Nat.reduceSub, Nat.reducePow, exB, resC_ptr, res_cell, nilb, nilf, faddr_p, c_soft_has, hs_loop, c_soft_has_b1, i5_30, i5_31, i5_32, r5_0, r5_5, r5_10, wr_1, wr1, wr_2, wr2, wr_3, wr3, h1, h2, h3]) | (simp (maxSteps := 1000000) (disch := first | with_reducible assumption | omega) only [dxB]) | (simp only [kI_d, kG_dt, kG_df]; split) | (simp only [kI_v, kG_vt, kG_vf]; split))

def deskA (F : Fm) (md : Int) : AV := .agg [.int .u8 F.u, .int .u8 md]
def ptA (c : Int) (n z : Bool) (d : Dy) : AV := .agg [.int .u8 c, .bool n, .bool d.n, D z (dl d.m), .int .i64 d.e]

theorem desk_none (hD : HasD g T) (hU : HasG g T) (F : Fm) {md x : Int} : run G T 179 [deskA F md, .int .u8 x] = some (.tup [.int .u64 (F.nan : Int), .int .u8 x, .int .i64 0]) := by
  rw [run_k G T hU.soft_desk_none]
  have h1 := word_None (G := G) (T := T) hU hD F
  simp only [deskA] at *
  repeat' (first | (simp (maxSteps := 1000000) only [evB, if_true, if_false, ne_eq, Nat.reduceEqDiff, Nat.reduceAdd, reduceCtorEq, Int.reduceLE, Int.reduceLT, Int.reduceEq, Int.reduceNeg, Int.reduceToNat, Int.reducePow, Int.reduceMod, Int.reduceDiv, Int.reduceSub, Int.reduceAdd, Int.reduceMul, Nat.reduceMul, Nat.reduceSub, Nat.reducePow, exB, resC_ptr, res_cell, nilb, nilf, faddr_p, c_soft_desk_none, h1]) | (simp (maxSteps := 1000000) (disch := first | with_reducible assumption | omega) only [dxB]) | (simp only [kI_d, kG_dt, kG_df]; split) | (simp only [kI_v, kG_vt, kG_vf]; split))
theorem desk_inf (hD : HasD g T) (hU : HasG g T) (F : Fm) {md x : Int} {n : Bool} : run G T 180 [deskA F md, .bool n, .int .u8 x] = some (.tup [.int .u64 ((F.inf n : Nat) : Int), .int .u8 x, .int .i64 0]) := by
  rw [run_k G T hU.soft_desk_inf]
  have h1 := word_Inf (G := G) (T := T) hD F (n := n)
  simp only [deskA] at *
  cases n <;> repeat' (first | (simp (maxSteps := 1000000) only [evB, if_true, if_false, ne_eq, Nat.reduceEqDiff, Nat.reduceAdd, reduceCtorEq, Int.reduceLE, Int.reduceLT, Int.reduceEq, Int.reduceNeg, Int.reduceToNat, Int.reducePow, Int.reduceMod, Int.reduceDiv, Int.reduceSub, Int.reduceAdd, Int.reduceMul, Nat.reduceMul, Nat.reduceSub, Nat.reducePow, exB, resC_ptr, res_cell, nilb, nilf, faddr_p, c_soft_desk_inf, h1]) | (simp (maxSteps := 1000000) (disch := first | with_reducible assumption | omega) only [dxB]) | (simp only [kI_d, kG_dt, kG_df]; split) | (simp only [kI_v, kG_vt, kG_vf]; split))
theorem desk_zero (hD : HasD g T) (hU : HasG g T) (F : Fm) {md : Int} {n : Bool} : run G T 181 [deskA F md, .bool n] = some (.tup [.int .u64 ((F.sgn n : Nat) : Int), .int .u8 0, .int .i64 0]) := by
  rw [run_k G T hU.soft_desk_zero]
  have h1 := word_Zero (G := G) (T := T) hD F (n := n)
  simp only [deskA] at *
  cases n <;> repeat' (first | (simp (maxSteps := 1000000) only [evB, if_true, if_false, ne_eq, Nat.reduceEqDiff, Nat.reduceAdd, reduceCtorEq, Int.reduceLE, Int.reduceLT, Int.reduceEq, Int.reduceNeg, Int.reduceToNat, Int.reducePow, Int.reduceMod, Int.reduceDiv, Int.reduceSub, Int.reduceAdd, Int.reduceMul, Nat.reduceMul, Nat.reduceSub, Nat.reducePow, exB, resC_ptr, res_cell, nilb, nilf, faddr_p, c_soft_desk_zero, h1]) | (simp (maxSteps := 1000000) (disch := first | with_reducible assumption | omega) only [dxB]) | (simp only [kI_d, kG_dt, kG_df]; split) | (simp only [kI_v, kG_vt, kG_vf]; split))
theorem desk_sum (hA : HasA g T) (hG : Glob G g) (hC : HasC g T) (hD : HasD g T) (hE : HasE g T) (hU : HasG g T) (F : Fm) {md : Int} (hm : 1 ≤ md ∧ md ≤ 5) {z : Bool} {d : Dy} (hz : Nz d) (hb : Bd d 131072) :
    run G T 183 [deskA F md, DyA z d] = some (.tup [.int .u64 ((sumW F md d).1 : Int), .int .u8 ((sumW F md d).2 : Int), .int .i64 0]) := by
  rw [run_k G T hU.soft_desk_sum]
  have hmd := mayD_nzb hz hb
  have s1 := dyad_Sign (G := G) (T := T) hA hC (n := d.n) (z := z) (Dg_dl d.m) (e := d.e)
  rw [sign_may hmd] at s1
  unfold sumW
  by_cases h0 : d.m = 0
  · rw [if_pos h0] at s1 ⊢
    have h1 := desk_zero (G := G) (T := T) hD hU F (md := md) (n := decide (md = 5))
    simp only [deskA, DyA, A3] at *
    repeat' (first | (simp (maxSteps := 1000000) only [evB, if_true, if_false, ne_eq, Nat.reduceEqDiff, Nat.reduceAdd, reduceCtorEq, Int.reduceLE, Int.reduceLT, Int.reduceEq, Int.reduceNeg, Int.reduceToNat, Int.reducePow, Int.reduceMod, Int.reduceDiv, Int.reduceSub, Int.reduceAdd, Int.reduceMul, Nat.reduceMul, Nat.reduceSub, Nat.reducePow, exB, resC_ptr, res_cell, nilb, nilf, faddr_p, c_soft_desk_sum, s1, h1]) | (simp (maxSteps := 1000000) (disch := first | with_reducible assumption | omega) only [dxB]) | (simp only [kI_d, kG_dt, kG_df]; split) | (simp only [kI_v, kG_vt, kG_vf]; split))
    all_goals try rfl
  · rw [if_neg h0] at s1 ⊢
    have h1 := round_Round (G := G) (T := T) hA hC hG hD hE F hm (z := z) (d := d) hmd
    have c1 : ¬ (if d.n = true then (-1 : Int) else 1) = 0 := by split <;> decide
    generalize (if d.n = true then (-1 : Int) else 1) = sg at *
    generalize rndW F md d = S at *
    simp only [deskA, DyA, A3] at *
    repeat' (first | (simp (maxSteps := 1000000) only [evB, if_true, if_false, ne_eq, Nat.reduceEqDiff, Nat.reduceAdd, reduceCtorEq, Int.reduceLE, Int.reduceLT, Int.reduceEq, Int.reduceNeg, Int.reduceToNat, Int.reducePow, Int.reduceMod, Int.reduceDiv, Int.reduceSub, Int.reduceAdd, Int.reduceMul, Nat.reduceMul, Nat.reduceSub, Nat.reducePow, exB, resC_ptr, res_cell, nilb, nilf, faddr_p, c_soft_desk_sum, s1, c1, h1]) | (simp (maxSteps := 1000000) (disch := first | with_reducible assumption | omega) only [dxB]) | (simp only [kI_d, kG_dt, kG_df]; split) | (simp only [kI_v, kG_vt, kG_vf]; split))
    all_goals try rfl

set_option maxHeartbeats 8000000 in
theorem desk_add (hA : HasA g T) (hG : Glob G g) (hC : HasC g T) (hD : HasD g T) (hE : HasE g T) (hU : HasG g T) (F : Fm) {md : Int} (hm : 1 ≤ md ∧ md ≤ 5) {c c' : Int} {n n' z z' : Bool} {d d' : Dy}
    (hz : Nz d) (hz' : Nz d') (hb : Bd d 16384) (hb' : Bd d' 16384) :
    run G T 177 [deskA F md, ptA c n z d, ptA c' n' z' d'] = some (.tup [.int .u64 ((addP F md c n d c' n' d').1 : Int), .int .u8 ((addP F md c n d c' n' d').2 : Int), .int .i64 0]) := by
  rw [run_k G T hU.soft_desk_add]
  have h5 := soft_has2 (G := G) (T := T) hU (k := 5) (c := c) (c' := c') (n := n) (s := d.n) (n' := n') (s' := d'.n) (z := z) (z' := z') (l := dl d.m) (l' := dl d'.m) (e := d.e) (e' := d'.e)
  have nn := fun x => desk_none (G := G) (T := T) hD hU F (md := md) (x := x)
  have inf := fun m => desk_inf (G := G) (T := T) hD hU F (md := md) (x := 0) (n := m)
  have ze := fun m => desk_zero (G := G) (T := T) hD hU F (md := md) (n := m)
  unfold addP
  by_cases a5 : c = 5 ∨ c' = 5
  · rw [decide_eq_true a5] at h5
    rw [if_pos a5]
    simp only [deskA, ptA] at *
    repeat' (first | (simp (maxSteps := 1000000) only [evB, if_true, if_false, ne_eq, Nat.reduceEqDiff, Nat.reduceAdd, reduceCtorEq, Int.reduceLE, Int.reduceLT, Int.reduceEq, Int.reduceNeg, Int.reduceToNat, Int.reducePow, Int.reduceMod, Int.reduceDiv, Int.reduceSub, Int.reduceAdd, Int.reduceMul, Nat.reduceMul, Nat.reduceSub, Nat.reducePow, exB, resC_ptr, res_cell, nilb, nilf, faddr_p, c_soft_desk_add, st_bs5, h5, nn]) | (simp (maxSteps := 1000000) (disch := first | with_reducible assumption | omega) only [dxB]) | (simp only [kI_d, kG_dt, kG_df]; split) | (simp only [kI_v, kG_vt, kG_vf]; split))
    all_goals try rfl
  · rw [decide_eq_false a5] at h5
    rw [if_neg a5]
    by_cases a4 : c = 4
    · by_cases b4 : c' = 4
      · by_cases hn : n = n'
        · rw [if_neg (show ¬ (c = 4 ∧ c' = 4 ∧ n ≠ n') from fun h => h.2.2 hn), if_pos a4]
          have i1 := inf n'
          subst a4 b4 hn
          simp only [deskA, ptA] at *
          cases n <;> (
            repeat' (first | (simp (maxSteps := 1000000) only [evB, if_true, if_false, ne_eq, Nat.reduceEqDiff, Nat.reduceAdd, reduceCtorEq, Int.reduceLE, Int.reduceLT, Int.reduceEq, Int.reduceNeg, Int.reduceToNat, Int.reducePow, Int.reduceMod, Int.reduceDiv, Int.reduceSub, Int.reduceAdd, Int.reduceMul, Nat.reduceMul, Nat.reduceSub, Nat.reducePow, exB, resC_ptr, res_cell, nilb, nilf, faddr_p, c_soft_desk_add, st_bs5, h5, i1]) | (simp (maxSteps := 1000000) (disch := first | with_reducible assumption | omega) only [dxB]) | (simp only [kI_d, kG_dt, kG_df]; split) | (simp only [kI_v, kG_vt, kG_vf]; split))
            all_goals try rfl)
        · rw [if_pos (show c = 4 ∧ c' = 4 ∧ n ≠ n' from ⟨a4, b4, hn⟩)]
          subst a4 b4
          simp only [deskA, ptA] at *
          cases n <;> cases n' <;> first | exact absurd rfl hn | (
            repeat' (first | (simp (maxSteps := 1000000) only [evB, if_true, if_false, ne_eq, Nat.reduceEqDiff, Nat.reduceAdd, reduceCtorEq, Int.reduceLE, Int.reduceLT, Int.reduceEq, Int.reduceNeg, Int.reduceToNat, Int.reducePow, Int.reduceMod, Int.reduceDiv, Int.reduceSub, Int.reduceAdd, Int.reduceMul, Nat.reduceMul, Nat.reduceSub, Nat.reducePow, exB, resC_ptr, res_cell, nilb, nilf, faddr_p, c_soft_desk_add, st_bs5, h5, nn]) | (simp (maxSteps := 1000000) (disch := first | with_reducible assumption | omega) only [dxB]) | (simp only [kI_d, kG_dt, kG_df]; split) | (simp only [kI_v, kG_vt, kG_vf]; split))
            all_goals try rfl)
      · rw [if_neg (show ¬ (c = 4 ∧ c' = 4 ∧ n ≠ n') by omega), if_pos a4]
        have i1 := inf n
        subst a4
        simp only [deskA, ptA] at *
        cases n <;> (
          repeat' (first | (simp (maxSteps := 1000000) only [evB, if_true, if_false, ne_eq, Nat.reduceEqDiff, Nat.reduceAdd, reduceCtorEq, Int.reduceLE, Int.reduceLT, Int.reduceEq, Int.reduceNeg, Int.reduceToNat, Int.reducePow, Int.reduceMod, Int.reduceDiv, Int.reduceSub, Int.reduceAdd, Int.reduceMul, Nat.reduceMul, Nat.reduceSub, Nat.reducePow, exB, resC_ptr, res_cell, nilb, nilf, faddr_p, c_soft_desk_add, st_bs5, h5, b4, i1]) | (simp (maxSteps := 1000000) (disch := first | with_reducible assumption | omega) only [dxB]) | (simp only [kI_d, kG_dt, kG_df]; split) | (simp only [kI_v, kG_vt, kG_vf]; split))
          all_goals try rfl)
    · rw [if_neg (show ¬ (c = 4 ∧ c' = 4 ∧ n ≠ n') by omega), if_neg a4]
      by_cases b4 : c' = 4
      · rw [if_pos b4]
        have i1 := inf n'
        subst b4
        simp only [deskA, ptA] at *
        cases n' <;> (
          repeat' (first | (simp (maxSteps := 1000000) only [evB, if_true, if_false, ne_eq, Nat.reduceEqDiff, Nat.reduceAdd, reduceCtorEq, Int.reduceLE, Int.reduceLT, Int.reduceEq, Int.reduceNeg, Int.reduceToNat, Int.reducePow, Int.reduceMod, Int.reduceDiv, Int.reduceSub, Int.reduceAdd, Int.reduceMul, Nat.reduceMul, Nat.reduceSub, Nat.reducePow, exB, resC_ptr, res_cell, nilb, nilf, faddr_p, c_soft_desk_add, st_bs5, h5, a4, i1]) | (simp (maxSteps := 1000000) (disch := first | with_reducible assumption | omega) only [dxB]) | (simp only [kI_d, kG_dt, kG_df]; split) | (simp only [kI_v, kG_vt, kG_vf]; split))
          all_goals try rfl)
      · rw [if_neg b4]
        by_cases h1 : c = 1 ∧ c' = 1 ∧ n = n'
        · rw [if_pos h1]
          have i1 := ze n
          obtain ⟨k1, k2, k3⟩ := h1
          subst k1 k2 k3
          simp only [deskA, ptA] at *
          cases n <;> (
            repeat' (first | (simp (maxSteps := 1000000) only [evB, if_true, if_false, ne_eq, Nat.reduceEqDiff, Nat.reduceAdd, reduceCtorEq, Int.reduceLE, Int.reduceLT, Int.reduceEq, Int.reduceNeg, Int.reduceToNat, Int.reducePow, Int.reduceMod, Int.reduceDiv, Int.reduceSub, Int.reduceAdd, Int.reduceMul, Nat.reduceMul, Nat.reduceSub, Nat.reducePow, exB, resC_ptr, res_cell, nilb, nilf, faddr_p, c_soft_desk_add, st_bs5, h5, i1]) | (simp (maxSteps := 1000000) (disch := first | with_reducible assumption | omega) only [dxB]) | (simp only [kI_d, kG_dt, kG_df]; split) | (simp only [kI_v, kG_vt, kG_vf]; split))
            all_goals try rfl)
        · rw [if_neg h1]
          obtain ⟨z3, s1⟩ := dyad_Add (G := G) (T := T) hA hG hC hU (z := z) (y := z') hb hb' (mayD_nzb hz (hb.mono (by decide))) (mayD_nzb hz' (hb'.mono (by decide)))
          have s2 := desk_sum (G := G) (T := T) hA hG hC hD hE hU F hm (z := z3) (Nz_add hz hz') ((Bd_add hb hb').mono (by decide))
          generalize sumW F md (addD d d') = S at *
          generalize addD d d' = s at *
          have hk : ¬ c = 1 ∨ (c = 1 ∧ ¬ c' = 1) ∨ (c = 1 ∧ c' = 1 ∧ n ≠ n') := by
            by_cases q1 : c = 1
            · by_cases q2 : c' = 1
              · right; right; exact ⟨q1, q2, fun h => h1 ⟨q1, q2, h⟩⟩
              · right; left; exact ⟨q1, q2⟩
            · left; exact q1
          clear h1 hb hb' hz hz' inf ze nn
          simp only [deskA, ptA, DyA, A3] at *
          rcases hk with k1 | ⟨k1, k2⟩ | ⟨k1, k2, k3⟩
          · repeat' (first | (simp (maxSteps := 1000000) only [evB, if_true, if_false, ne_eq, Nat.reduceEqDiff, Nat.reduceAdd, reduceCtorEq, Int.reduceLE, Int.reduceLT, Int.reduceEq, Int.reduceNeg, Int.reduceToNat, Int.reducePow, Int.reduceMod, Int.reduceDiv, Int.reduceSub, Int.reduceAdd, Int.reduceMul, Nat.reduceMul, Nat.reduceSub, Nat.reducePow, exB, resC_ptr, res_cell, nilb, nilf, faddr_p, c_soft_desk_add, st_bs5, h5, a4, b4, k1, s1, s2]) | (simp (maxSteps := 1000000) (disch := first | with_reducible assumption | omega) only [dxB]) | (simp only [kI_d, kG_dt, kG_df]; split) | (simp only [kI_v, kG_vt, kG_vf]; split))
            all_goals try rfl
          · subst k1
            repeat' (first | (simp (maxSteps := 1000000) only [evB, if_true, if_false, ne_eq, Nat.reduceEqDiff, Nat.reduceAdd, reduceCtorEq, Int.reduceLE, Int.reduceLT, Int.reduceEq, Int.reduceNeg, Int.reduceToNat, Int.reducePow, Int.reduceMod, Int.reduceDiv, Int.reduceSub, Int.reduceAdd, Int.reduceMul, Nat.reduceMul, Nat.reduceSub, Nat.reducePow, exB, resC_ptr, res_cell, nilb, nilf, faddr_p, c_soft_desk_add, st_bs5, h5, a4, b4, k2, s1, s2]) | (simp (maxSteps := 1000000) (disch := first | with_reducible assumption | omega) only [dxB]) | (simp only [kI_d, kG_dt, kG_df]; split) | (simp only [kI_v, kG_vt, kG_vf]; split))
            all_goals try rfl
          · subst k1 k2
            cases n <;> cases n' <;> first | exact absurd rfl k3 | (
              repeat' (first | (simp (maxSteps := 1000000) only [evB, if_true, if_false, ne_eq, Nat.reduceEqDiff, Nat.reduceAdd, reduceCtorEq, Int.reduceLE, Int.reduceLT, Int.reduceEq, Int.reduceNeg, Int.reduceToNat, Int.reducePow, Int.reduceMod, Int.reduceDiv, Int.reduceSub, Int.reduceAdd, Int.reduceMul, Nat.reduceMul, Nat.reduceSub, Nat.reducePow, exB, resC_ptr, res_cell, nilb, nilf, faddr_p, c_soft_desk_add, st_bs5, h5, s1, s2]) | (simp (maxSteps := 1000000) (disch := first | with_reducible assumption | omega) only [dxB]) | (simp only [kI_d, kG_dt, kG_df]; split) | (simp only [kI_v, kG_vt, kG_vf]; split))
              all_goals try rfl)
end Go.Cv

/-
  The program's sums, differences, products, quotients, roots of words.
-/
namespace Go.Cv
variable {G : Nat → Option (List AV)} {T : Tbl} {g : Nat}

theorem apart_ip (cs : List AV) (o b o' : Nat) : apart (.iptr cs o) (.ptr b o') = true := rfl
theorem soft_Add (hA : HasA g T) (hG : Glob G g) (hC : HasC g T) (hD : HasD g T) (hE : HasE g T) (hU : HasG g T) (F : Fm) {md : Int} (hm : 1 ≤ md ∧ md ≤ 5) {a b : Nat} (ha : a < 2 * F.sg) (hb : b < 2 * F.sg) :
    run G T 164 [.int .u8 F.u, .int .u8 md, .int .u64 (a : Int), .int .u64 (b : Int)] = some (.tup [.int .u64 ((addW F md a b).1 : Int), .int .u8 ((addW F md a b).2 : Int), .int .i64 0]) := by
  rw [run_k G T hU.soft_Add]
  obtain ⟨z1, z2, o1⟩ := soft_open2 (G := G) (T := T) hA hG hC hD hE hU F hm ha hb
  have s1 := desk_add (G := G) (T := T) hA hG hC hD hE hU F hm (c := F.cls a) (n := F.ng a) (z := z1) (d := F.vl a) (c' := F.cls b) (n' := F.ng b) (z' := z2) (d' := F.vl b) (Nz_vl F a) (Nz_vl F b) ((Bd_vl F a).mono (by decide)) ((Bd_vl F b).mono (by decide))
  unfold addW
  generalize addP F md (F.cls a) (F.ng a) (F.vl a) (F.cls b) (F.ng b) (F.vl b) = S at *
  unfold ptC at o1
  generalize F.cls a = ca at *
  generalize F.ng a = na at *
  generalize F.vl a = va at *
  generalize F.cls b = cb at *
  generalize F.ng b = nb at *
  generalize F.vl b = vb at *
  simp only [deskA, ptA, List.cons_append, List.nil_append] at *
  repeat' (first | (simp (maxSteps := 1000000) only [evB, if_true, if_false, ne_eq, Nat.reduceEqDiff, Nat.reduceAdd, reduceCtorEq, Int.reduceLE, Int.reduceLT, Int.reduceEq, Int.reduceNeg, Int.reduceToNat, Int.reducePow, Int.reduceMod, Int.reduceDiv, Int.reduceSub, Int.reduceAdd, Int.reduceMul, Nat.reduceMul, Nat.reduceSub, Nat.reducePow, exB, resC_ptr, res_cell, nilb, nilf, faddr_p, c_soft_Add, o1, i5_20, i5_21, r5_0, r5_5, s1]) | (simp (maxSteps := 1000000) (disch := first | with_reducible assumption | omega) only [dxB]) | (simp only [kI_d, kG_dt, kG_df]; split) | (simp only [kI_v, kG_vt, kG_vf]; split))
  all_goals try rfl

theorem soft_Sub (hA : HasA g T) (hG : Glob G g) (hC : HasC g T) (hD : HasD g T) (hE : HasE g T) (hU : HasG g T) (F : Fm) {md : Int} (hm : 1 ≤ md ∧ md ≤ 5) {a b : Nat} (ha : a < 2 * F.sg) (hb : b < 2 * F.sg) :
    run G T 166 [.int .u8 F.u, .int .u8 md, .int .u64 (a : Int), .int .u64 (b : Int)] = some (.tup [.int .u64 ((subW F md a b).1 : Int), .int .u8 ((subW F md a b).2 : Int), .int .i64 0]) := by
  rw [run_k G T hU.soft_Sub]
  obtain ⟨z1, z2, o1⟩ := soft_open2 (G := G) (T := T) hA hG hC hD hE hU F hm ha hb
  obtain ⟨z3, n1⟩ := dyad_Neg (G := G) (T := T) hA hC hU (z := z2) (d := F.vl b) (mayD_nzb (Nz_vl F b) ((Bd_vl F b).mono (by decide)))
  have s1 := desk_add (G := G) (T := T) hA hG hC hD hE hU F hm (c := F.cls a) (n := F.ng a) (z := z1) (d := F.vl a) (c' := F.cls b) (n' := !F.ng b) (z' := z3) (d' := negD (F.vl b)) (Nz_vl F a) (Nz_neg (Nz_vl F b)) ((Bd_vl F a).mono (by decide)) (((Bd_vl F b).neg).mono (by decide))
  unfold subW
  generalize addP F md (F.cls a) (F.ng a) (F.vl a) (F.cls b) (!F.ng b) (negD (F.vl b)) = S at *
  unfold ptC at o1
  generalize negD (F.vl b) = vb' at *
  generalize F.cls a = ca at *
  generalize F.ng a = na at *
  generalize F.vl a = va at *
  generalize F.cls b = cb at *
  generalize F.ng b = nb at *
  generalize F.vl b = vb at *
  simp only [deskA, ptA, DyA, A3, List.cons_append, List.nil_append] at *
  cases nb <;> (
    simp only [Bool.not_true, Bool.not_false] at s1
    repeat' (first | (simp (maxSteps := 1000000) only [evB, if_true, if_false, ne_eq, Nat.reduceEqDiff, Nat.reduceAdd, reduceCtorEq, Int.reduceLE, Int.reduceLT, Int.reduceEq, Int.reduceNeg, Int.reduceToNat, Int.reducePow, Int.reduceMod, Int.reduceDiv, Int.reduceSub, Int.reduceAdd, Int.reduceMul, Nat.reduceMul, Nat.reduceSub, Nat.reducePow, exB, resC_ptr, res_cell, nilb, nilf, faddr_p, c_soft_Sub, o1, i5_20, i5_21, r5_0, r5_5, n1, s1]) | (simp (maxSteps := 1000000) (disch := first | with_reducible assumption | omega) only [dxB]) | (simp only [kI_d, kG_dt, kG_df]; split) | (simp only [kI_v, kG_vt, kG_vf]; split))
    all_goals try rfl)

set_option maxHeartbeats 8000000 in
theorem soft_Mul (hA : HasA g T) (hG : Glob G g) (hC : HasC g T) (hD : HasD g T) (hE : HasE g T) (hU : HasG g T) (F : Fm) {md : Int} (hm : 1 ≤ md ∧ md ≤ 5) {a b : Nat} (ha : a < 2 * F.sg) (hb : b < 2 * F.sg) :
    run G T 165 [.int .u8 F.u, .int .u8 md, .int .u64 (a : Int), .int .u64 (b : Int)] = some (.tup [.int .u64 ((mulW2 F md a b).1 : Int), .int .u8 ((mulW2 F md a b).2 : Int), .int .i64 0]) := by
  rw [run_k G T hU.soft_Mul]
  obtain ⟨z1, z2, o1⟩ := soft_open2 (G := G) (T := T) hA hG hC hD hE hU F hm ha hb
  have hk := fun k => soft_has2 (G := G) (T := T) hU (k := k) (c := F.cls a) (c' := F.cls b) (n := F.ng a) (s := (F.vl a).n) (n' := F.ng b) (s' := (F.vl b).n) (z := z1) (z' := z2) (l := dl (F.vl a).m) (l' := dl (F.vl b).m) (e := (F.vl a).e) (e' := (F.vl b).e)
  have h5 := hk 5
  have h4 := hk 4
  have h1 := hk 1
  have nn := fun x => desk_none (G := G) (T := T) hD hU F (md := md) (x := x)
  have inf := fun x => desk_inf (G := G) (T := T) hD hU F (md := md) (x := x) (n := F.ng a != F.ng b)
  have ze := desk_zero (G := G) (T := T) hD hU F (md := md) (n := F.ng a != F.ng b)
  have b1 := Bd_vl F a
  have b2 := Bd_vl F b
  obtain ⟨z3, m1⟩ := dyad_Mul (G := G) (T := T) hA hG hC hU (z := z1) (y := z2) (b1.mono (by decide)) (b2.mono (by decide)) (mayD_nzb (Nz_vl F a) (b1.mono (by decide))) (mayD_nzb (Nz_vl F b) (b2.mono (by decide)))
  have s1 := desk_sum (G := G) (T := T) hA hG hC hD hE hU F hm (z := z3) (Nz_mul (F.vl a) (F.vl b)) ((Bd_mul b1 b2).mono (by decide))
  unfold mulW2 mulP
  unfold ptC at o1
  generalize sumW F md (mulD (F.vl a) (F.vl b)) = S at *
  generalize mulD (F.vl a) (F.vl b) = s at *
  clear b1 b2 hk
  generalize F.cls a = ca at *
  generalize F.ng a = na at *
  generalize F.vl a = va at *
  generalize F.cls b = cb at *
  generalize F.ng b = nb at *
  generalize F.vl b = vb at *
  simp only [deskA, DyA, A3, List.cons_append, List.nil_append] at *
  have hne : (na != nb) = !decide (na = nb) := by cases na <;> cases nb <;> rfl
  rw [hne] at inf ze ⊢
  by_cases q5 : ca = 5 ∨ cb = 5
  · rw [decide_eq_true q5] at h5
    rw [if_pos q5]
    repeat' (first | (simp (maxSteps := 1000000) only [evB, if_true, if_false, ne_eq, Nat.reduceEqDiff, Nat.reduceAdd, reduceCtorEq, Int.reduceLE, Int.reduceLT, Int.reduceEq, Int.reduceNeg, Int.reduceToNat, Int.reducePow, Int.reduceMod, Int.reduceDiv, Int.reduceSub, Int.reduceAdd, Int.reduceMul, Nat.reduceMul, Nat.reduceSub, Nat.reducePow, exB, resC_ptr, res_cell, nilb, nilf, faddr_p, c_soft_Mul, apart_ip, o1, i5_20, i5_21, r5_0, r5_5, h5, nn]) | (simp (maxSteps := 1000000) (disch := first | with_reducible assumption | omega) only [dxB]) | (simp only [kI_d, kG_dt, kG_df]; split) | (simp only [kI_v, kG_vt, kG_vf]; split))
    all_goals try rfl
  · rw [decide_eq_false q5] at h5
    rw [if_neg q5]
    by_cases q4 : ca = 4 ∨ cb = 4
    · rw [decide_eq_true q4] at h4
      by_cases q1 : ca = 1 ∨ cb = 1
      · rw [decide_eq_true q1] at h1
        rw [if_pos (show (ca = 4 ∨ cb = 4) ∧ (ca = 1 ∨ cb = 1) from ⟨q4, q1⟩)]
        repeat' (first | (simp (maxSteps := 1000000) only [evB, if_true, if_false, ne_eq, Nat.reduceEqDiff, Nat.reduceAdd, reduceCtorEq, Int.reduceLE, Int.reduceLT, Int.reduceEq, Int.reduceNeg, Int.reduceToNat, Int.reducePow, Int.reduceMod, Int.reduceDiv, Int.reduceSub, Int.reduceAdd, Int.reduceMul, Nat.reduceMul, Nat.reduceSub, Nat.reducePow, exB, resC_ptr, res_cell, nilb, nilf, faddr_p, c_soft_Mul, apart_ip, o1, i5_20, i5_21, r5_0, r5_5, h5, h4, h1, nn]) | (simp (maxSteps := 1000000) (disch := first | with_reducible assumption | omega) only [dxB]) | (simp only [kI_d, kG_dt, kG_df]; split) | (simp only [kI_v, kG_vt, kG_vf]; split))
        all_goals try rfl
      · rw [decide_eq_false q1] at h1
        rw [if_neg (show ¬ ((ca = 4 ∨ cb = 4) ∧ (ca = 1 ∨ cb = 1)) from fun h => q1 h.2), if_pos q4]
        repeat' (first | (simp (maxSteps := 1000000) only [evB, if_true, if_false, ne_eq, Nat.reduceEqDiff, Nat.reduceAdd, reduceCtorEq, Int.reduceLE, Int.reduceLT, Int.reduceEq, Int.reduceNeg, Int.reduceToNat, Int.reducePow, Int.reduceMod, Int.reduceDiv, Int.reduceSub, Int.reduceAdd, Int.reduceMul, Nat.reduceMul, Nat.reduceSub, Nat.reducePow, exB, resC_ptr, res_cell, nilb, nilf, faddr_p, c_soft_Mul, apart_ip, o1, i5_20, i5_21, r5_0, r5_5, h5, h4, h1, inf]) | (simp (maxSteps := 1000000) (disch := first | with_reducible assumption | omega) only [dxB]) | (simp only [kI_d, kG_dt, kG_df]; split) | (simp only [kI_v, kG_vt, kG_vf]; split))
        all_goals try rfl
    · rw [decide_eq_false q4] at h4
      rw [if_neg (show ¬ ((ca = 4 ∨ cb = 4) ∧ (ca = 1 ∨ cb = 1)) from fun h => q4 h.1), if_neg q4]
      by_cases q1 : ca = 1 ∨ cb = 1
      · rw [decide_eq_true q1] at h1
        rw [if_pos q1]
        repeat' (first | (simp (maxSteps := 1000000) only [evB, if_true, if_false, ne_eq, Nat.reduceEqDiff, Nat.reduceAdd, reduceCtorEq, Int.reduceLE, Int.reduceLT, Int.reduceEq, Int.reduceNeg, Int.reduceToNat, Int.reducePow, Int.reduceMod, Int.reduceDiv, Int.reduceSub, Int.reduceAdd, Int.reduceMul, Nat.reduceMul, Nat.reduceSub, Nat.reducePow, exB, resC_ptr, res_cell, nilb, nilf, faddr_p, c_soft_Mul, apart_ip, o1, i5_20, i5_21, r5_0, r5_5, h5, h4, h1, ze]) | (simp (maxSteps := 1000000) (disch := first | with_reducible assumption | omega) only [dxB]) | (simp only [kI_d, kG_dt, kG_df]; split) | (simp only [kI_v, kG_vt, kG_vf]; split))
        all_goals try rfl
      · rw [decide_eq_false q1] at h1
        rw [if_neg q1]
        repeat' (first | (simp (maxSteps := 1000000) only [evB, if_true, if_false, ne_eq, Nat.reduceEqDiff, Nat.reduceAdd, reduceCtorEq, Int.reduceLE, Int.reduceLT, Int.reduceEq, Int.reduceNeg, Int.reduceToNat, Int.reducePow, Int.reduceMod, Int.reduceDiv, Int.reduceSub, Int.reduceAdd, Int.reduceMul, Nat.reduceMul, Nat.reduceSub, Nat.reducePow, exB, resC_ptr, res_cell, nilb, nilf, faddr_p, c_soft_Mul, apart_ip, o1, i5_20, i5_21, r5_0, r5_5, h5, h4, h1, m1, s1]) | (simp (maxSteps := 1000000) (disch := first | with_reducible assumption | omega) only [dxB]) | (simp only [kI_d, kG_dt, kG_df]; split) | (simp only [kI_v, kG_vt, kG_vf]; split))
        all_goals try rfl
end Go.Cv

/-
  The program's quotients, roots, fused products of words.
-/
namespace Go.Cv
variable {G : Nat → Option (List AV)} {T : Tbl} {g : Nat}

theorem vl_ne {F : Fm} {w : Nat} (h : w < 2 * F.sg) (h1 : F.cls w ≠ 1) (h4 : F.cls w ≠ 4) (h5 : F.cls w ≠ 5) : (F.vl w).m ≠ 0 := by
  have r := cls_range F w
  have hf : F.fin w := fin_iff.2 (by omega)
  have := val_cls h h1 hf
  rw [← vl_val hf] at this
  exact this

set_option maxHeartbeats 8000000 in
theorem soft_Div (hA : HasA g T) (hG : Glob G g) (hC : HasC g T) (hD : HasD g T) (hE : HasE g T) (hU : HasG g T) (hV : HasH g T) (F : Fm) {md : Int} (hm : 1 ≤ md ∧ md ≤ 5) {a b : Nat} (ha : a < 2 * F.sg) (hb : b < 2 * F.sg) :
    run G T 221 [.int .u8 F.u, .int .u8 md, .int .u64 (a : Int), .int .u64 (b : Int)] = some (.tup [.int .u64 ((divW2 F md a b).1 : Int), .int .u8 ((divW2 F md a b).2 : Int), .int .i64 0]) := by
  rw [run_k G T hV.soft_Div]
  obtain ⟨z1, z2, o1⟩ := soft_open2 (G := G) (T := T) hA hG hC hD hE hU F hm ha hb
  have h5 := soft_has2 (G := G) (T := T) hU (k := 5) (c := F.cls a) (c' := F.cls b) (n := F.ng a) (s := (F.vl a).n) (n' := F.ng b) (s' := (F.vl b).n) (z := z1) (z' := z2) (l := dl (F.vl a).m) (l' := dl (F.vl b).m) (e := (F.vl a).e) (e' := (F.vl b).e)
  have nn := fun x => desk_none (G := G) (T := T) hD hU F (md := md) (x := x)
  have inf := fun x => desk_inf (G := G) (T := T) hD hU F (md := md) (x := x) (n := F.ng a != F.ng b)
  have ze := desk_zero (G := G) (T := T) hD hU F (md := md) (n := F.ng a != F.ng b)
  have b1 := Bd_vl F a
  have b2 := Bd_vl F b
  have hq : F.cls a ≠ 1 → F.cls a ≠ 4 → F.cls a ≠ 5 → F.cls b ≠ 1 → F.cls b ≠ 4 → F.cls b ≠ 5 → run G T 15 [.int .u8 F.u, .int .u8 md, DyA z1 (F.vl a), DyA z2 (F.vl b)] = some (.tup [.int .u64 ((quoW F md (F.vl a) (F.vl b)).1 : Int), .int .u8 ((quoW F md (F.vl a) (F.vl b)).2 : Int), .int .i64 0]) := fun k1 k2 k3 k4 k5 k6 => by
    have p1 := b1.bl
    have p2 := b2.bl
    have hN : quoN 64 (F.vl a).m (F.vl b).m = 64 + 1 + blen (F.vl b).m - blen (F.vl a).m := rfl
    exact round_Quo (G := G) (T := T) hA hC hG hD hE F hm (mayD_nzb (Nz_vl F a) (b1.mono (by decide))) (mayD_nzb (Nz_vl F b) (b2.mono (by decide))) (vl_ne ha k1 k2 k3) (vl_ne hb k4 k5 k6) (by omega)
  have ra := cls_range F a
  have rb := cls_range F b
  unfold divW2 divP
  unfold ptC at o1
  generalize quoW F md (F.vl a) (F.vl b) = S at *
  clear b1 b2
  generalize F.cls a = ca at *
  generalize F.ng a = na at *
  generalize F.vl a = va at *
  generalize F.cls b = cb at *
  generalize F.ng b = nb at *
  generalize F.vl b = vb at *
  simp only [deskA, DyA, A3, List.cons_append, List.nil_append] at *
  have hne : (na != nb) = !decide (na = nb) := by cases na <;> cases nb <;> rfl
  rw [hne] at inf ze ⊢
  by_cases q5 : ca = 5 ∨ cb = 5
  · rw [decide_eq_true q5] at h5
    rw [if_pos q5]
    repeat' (first | (simp (maxSteps := 1000000) only [evB, if_true, if_false, ne_eq, Nat.reduceEqDiff, Nat.reduceAdd, reduceCtorEq, Int.reduceLE, Int.reduceLT, Int.reduceEq, Int.reduceNeg, Int.reduceToNat, Int.reducePow, Int.reduceMod, Int.reduceDiv, Int.reduceSub, Int.reduceAdd, Int.reduceMul, Nat.reduceMul, Nat.reduceSub, Nat.reducePow, exB, resC_ptr, res_cell, nilb, nilf, faddr_p, c_soft_Div, apart_ip, o1, i5_20, i5_21, r5_0, r5_5, h5, nn]) | (simp (maxSteps := 1000000) (disch := first | with_reducible assumption | omega) only [dxB]) | (simp only [kI_d, kG_dt, kG_df]; split) | (simp only [kI_v, kG_vt, kG_vf]; split))
    all_goals try rfl
  · rw [decide_eq_false q5] at h5
    rw [if_neg q5]
    by_cases q0 : ca = cb ∧ (ca = 1 ∨ ca = 4)
    · rw [if_pos q0]
      obtain ⟨e1, e2⟩ := q0
      subst e1
      clear hq
      rcases e2 with rfl | rfl
      · repeat' (first | (simp (maxSteps := 1000000) only [evB, if_true, if_false, ne_eq, Nat.reduceEqDiff, Nat.reduceAdd, reduceCtorEq, Int.reduceLE, Int.reduceLT, Int.reduceEq, Int.reduceNeg, Int.reduceToNat, Int.reducePow, Int.reduceMod, Int.reduceDiv, Int.reduceSub, Int.reduceAdd, Int.reduceMul, Nat.reduceMul, Nat.reduceSub, Nat.reducePow, exB, resC_ptr, res_cell, nilb, nilf, faddr_p, c_soft_Div, apart_ip, o1, i5_20, i5_21, r5_0, r5_5, h5, nn]) | (simp (maxSteps := 1000000) (disch := first | with_reducible assumption | omega) only [dxB]) | (simp only [kI_d, kG_dt, kG_df]; split) | (simp only [kI_v, kG_vt, kG_vf]; split))
        all_goals try rfl
      · repeat' (first | (simp (maxSteps := 1000000) only [evB, if_true, if_false, ne_eq, Nat.reduceEqDiff, Nat.reduceAdd, reduceCtorEq, Int.reduceLE, Int.reduceLT, Int.reduceEq, Int.reduceNeg, Int.reduceToNat, Int.reducePow, Int.reduceMod, Int.reduceDiv, Int.reduceSub, Int.reduceAdd, Int.reduceMul, Nat.reduceMul, Nat.reduceSub, Nat.reducePow, exB, resC_ptr, res_cell, nilb, nilf, faddr_p, c_soft_Div, apart_ip, o1, i5_20, i5_21, r5_0, r5_5, h5, nn]) | (simp (maxSteps := 1000000) (disch := first | with_reducible assumption | omega) only [dxB]) | (simp only [kI_d, kG_dt, kG_df]; split) | (simp only [kI_v, kG_vt, kG_vf]; split))
        all_goals try rfl
    · rw [if_neg q0]
      by_cases a4 : ca = 4
      · rw [if_pos a4]
        have c1 : ¬ ca = cb := by omega
        clear hq
        subst a4
        repeat' (first | (simp (maxSteps := 1000000) only [evB, if_true, if_false, ne_eq, Nat.reduceEqDiff, Nat.reduceAdd, reduceCtorEq, Int.reduceLE, Int.reduceLT, Int.reduceEq, Int.reduceNeg, Int.reduceToNat, Int.reducePow, Int.reduceMod, Int.reduceDiv, Int.reduceSub, Int.reduceAdd, Int.reduceMul, Nat.reduceMul, Nat.reduceSub, Nat.reducePow, exB, resC_ptr, res_cell, nilb, nilf, faddr_p, c_soft_Div, apart_ip, o1, i5_20, i5_21, r5_0, r5_5, h5, c1, inf]) | (simp (maxSteps := 1000000) (disch := first | with_reducible assumption | omega) only [dxB]) | (simp only [kI_d, kG_dt, kG_df]; split) | (simp only [kI_v, kG_vt, kG_vf]; split))
        all_goals try rfl
      · rw [if_neg a4]
        by_cases b1 : cb = 1
        · rw [if_pos b1]
          have c1 : ¬ ca = 1 := by omega
          clear hq
          subst b1
          repeat' (first | (simp (maxSteps := 1000000) only [evB, if_true, if_false, ne_eq, Nat.reduceEqDiff, Nat.reduceAdd, reduceCtorEq, Int.reduceLE, Int.reduceLT, Int.reduceEq, Int.reduceNeg, Int.reduceToNat, Int.reducePow, Int.reduceMod, Int.reduceDiv, Int.reduceSub, Int.reduceAdd, Int.reduceMul, Nat.reduceMul, Nat.reduceSub, Nat.reducePow, exB, resC_ptr, res_cell, nilb, nilf, faddr_p, c_soft_Div, apart_ip, o1, i5_20, i5_21, r5_0, r5_5, h5, a4, c1, inf]) | (simp (maxSteps := 1000000) (disch := first | with_reducible assumption | omega) only [dxB]) | (simp only [kI_d, kG_dt, kG_df]; split) | (simp only [kI_v, kG_vt, kG_vf]; split))
          all_goals try rfl
        · rw [if_neg b1]
          by_cases q1 : ca = 1 ∨ cb = 4
          · rw [if_pos q1]
            clear hq
            have c1 : ¬ ca = cb := by omega
            by_cases a1 : ca = 1
            · subst a1
              repeat' (first | (simp (maxSteps := 1000000) only [evB, if_true, if_false, ne_eq, Nat.reduceEqDiff, Nat.reduceAdd, reduceCtorEq, Int.reduceLE, Int.reduceLT, Int.reduceEq, Int.reduceNeg, Int.reduceToNat, Int.reducePow, Int.reduceMod, Int.reduceDiv, Int.reduceSub, Int.reduceAdd, Int.reduceMul, Nat.reduceMul, Nat.reduceSub, Nat.reducePow, exB, resC_ptr, res_cell, nilb, nilf, faddr_p, c_soft_Div, apart_ip, o1, i5_20, i5_21, r5_0, r5_5, h5, c1, b1, ze]) | (simp (maxSteps := 1000000) (disch := first | with_reducible assumption | omega) only [dxB]) | (simp only [kI_d, kG_dt, kG_df]; split) | (simp only [kI_v, kG_vt, kG_vf]; split))
              all_goals try rfl
            · have b4 : cb = 4 := by omega
              subst b4
              repeat' (first | (simp (maxSteps := 1000000) only [evB, if_true, if_false, ne_eq, Nat.reduceEqDiff, Nat.reduceAdd, reduceCtorEq, Int.reduceLE, Int.reduceLT, Int.reduceEq, Int.reduceNeg, Int.reduceToNat, Int.reducePow, Int.reduceMod, Int.reduceDiv, Int.reduceSub, Int.reduceAdd, Int.reduceMul, Nat.reduceMul, Nat.reduceSub, Nat.reducePow, exB, resC_ptr, res_cell, nilb, nilf, faddr_p, c_soft_Div, apart_ip, o1, i5_20, i5_21, r5_0, r5_5, h5, a4, a1, c1, ze]) | (simp (maxSteps := 1000000) (disch := first | with_reducible assumption | omega) only [dxB]) | (simp only [kI_d, kG_dt, kG_df]; split) | (simp only [kI_v, kG_vt, kG_vf]; split))
              all_goals try rfl
          · rw [if_neg q1]
            have c2 : ¬ ca = 1 := by omega
            have c3 : ¬ cb = 4 := by omega
            have hq2 := hq c2 a4 (by omega) b1 c3 (by omega)
            clear hq
            by_cases c1 : ca = cb
            · subst c1
              repeat' (first | (simp (maxSteps := 1000000) only [evB, if_true, if_false, ne_eq, Nat.reduceEqDiff, Nat.reduceAdd, reduceCtorEq, Int.reduceLE, Int.reduceLT, Int.reduceEq, Int.reduceNeg, Int.reduceToNat, Int.reducePow, Int.reduceMod, Int.reduceDiv, Int.reduceSub, Int.reduceAdd, Int.reduceMul, Nat.reduceMul, Nat.reduceSub, Nat.reducePow, exB, resC_ptr, res_cell, nilb, nilf, faddr_p, c_soft_Div, apart_ip, o1, i5_20, i5_21, r5_0, r5_5, h5, a4, c2, hq2]) | (simp (maxSteps := 1000000) (disch := first | with_reducible assumption | omega) only [dxB]) | (simp only [kI_d, kG_dt, kG_df]; split) | (simp only [kI_v, kG_vt, kG_vf]; split))
              all_goals try rfl
            · repeat' (first | (simp (maxSteps := 1000000) only [evB, if_true, if_false, ne_eq, Nat.reduceEqDiff, Nat.reduceAdd, reduceCtorEq, Int.reduceLE, Int.reduceLT, Int.reduceEq, Int.reduceNeg, Int.reduceToNat, Int.reducePow, Int.reduceMod, Int.reduceDiv, Int.reduceSub, Int.reduceAdd, Int.reduceMul, Nat.reduceMul, Nat.reduceSub, Nat.reducePow, exB, resC_ptr, res_cell, nilb, nilf, faddr_p, c_soft_Div, apart_ip, o1, i5_20, i5_21, r5_0, r5_5, h5, a4, b1, c1, c2, c3, hq2]) | (simp (maxSteps := 1000000) (disch := first | with_reducible assumption | omega) only [dxB]) | (simp only [kI_d, kG_dt, kG_df]; split) | (simp only [kI_v, kG_vt, kG_vf]; split))
              all_goals try rfl

end Go.Cv

/-
  The program's fused product and sum of words.
-/
namespace Go.Cv
variable {G : Nat → Option (List AV)} {T : Tbl} {g : Nat}

set_option maxHeartbeats 16000000 in
theorem soft_MulAdd (hA : HasA g T) (hG : Glob G g) (hC : HasC g T) (hD : HasD g T) (hE : HasE g T) (hU : HasG g T) (F : Fm) {md : Int} (hm : 1 ≤ md ∧ md ≤ 5) {a b c : Nat} (ha : a < 2 * F.sg) (hb : b < 2 * F.sg) (hc : c < 2 * F.sg) :
    run G T 175 [.int .u8 F.u, .int .u8 md, .int .u64 (a : Int), .int .u64 (b : Int), .int .u64 (c : Int)] = some (.tup [.int .u64 ((fmaW F md a b c).1 : Int), .int .u8 ((fmaW F md a b c).2 : Int), .int .i64 0]) := by
  rw [run_k G T hU.soft_MulAdd]
  obtain ⟨z1, z2, z3, o1⟩ := soft_open3 (G := G) (T := T) hA hG hC hD hE hU F hm ha hb hc
  have h5 := soft_has3 (G := G) (T := T) hU (k := 5) (c := F.cls a) (c' := F.cls b) (c'' := F.cls c) (n := F.ng a) (s := (F.vl a).n) (n' := F.ng b) (s' := (F.vl b).n) (n'' := F.ng c) (s'' := (F.vl c).n) (z := z1) (z' := z2) (z'' := z3) (l := dl (F.vl a).m) (l' := dl (F.vl b).m) (l'' := dl (F.vl c).m) (e := (F.vl a).e) (e' := (F.vl b).e) (e'' := (F.vl c).e)
  have hk := fun k => soft_has2 (G := G) (T := T) hU (k := k) (c := F.cls a) (c' := F.cls b) (n := F.ng a) (s := (F.vl a).n) (n' := F.ng b) (s' := (F.vl b).n) (z := z1) (z' := z2) (l := dl (F.vl a).m) (l' := dl (F.vl b).m) (e := (F.vl a).e) (e' := (F.vl b).e)
  have h4 := hk 4
  have h1 := hk 1
  have nn := fun x => desk_none (G := G) (T := T) hD hU F (md := md) (x := x)
  have b1 := Bd_vl F a
  have b2 := Bd_vl F b
  obtain ⟨z4, m1⟩ := dyad_Mul (G := G) (T := T) hA hG hC hU (z := z1) (y := z2) (b1.mono (by decide)) (b2.mono (by decide)) (mayD_nzb (Nz_vl F a) (b1.mono (by decide))) (mayD_nzb (Nz_vl F b) (b2.mono (by decide)))
  have ad := fun (k : Int) (z : Bool) (d : Dy) (hz : Nz d) (hb : Bd d 16384) => desk_add (G := G) (T := T) hA hG hC hD hE hU F hm (c := k) (n := F.ng a != F.ng b) (z := z) (d := d) (c' := F.cls c) (n' := F.ng c) (z' := z3) (d' := F.vl c) hz (Nz_vl F c) hb ((Bd_vl F c).mono (by decide))
  have ad4 := ad 4 true ⟨false, 0, 0⟩ ⟨fun _ => rfl, fun h => absurd rfl h⟩ ⟨by simp only [blen_zero]; omega, by simp, by simp⟩
  have ad1 := ad 1 true ⟨false, 0, 0⟩ ⟨fun _ => rfl, fun h => absurd rfl h⟩ ⟨by simp only [blen_zero]; omega, by simp, by simp⟩
  have ad3 := ad 3 z4 (mulD (F.vl a) (F.vl b)) (Nz_mul _ _) ((Bd_mul b1 b2).mono (by decide))
  clear ad b1 b2 hk
  unfold fmaW prC
  unfold ptC at o1
  generalize mulD (F.vl a) (F.vl b) = s at *
  have hne : (F.ng a != F.ng b) = !decide (F.ng a = F.ng b) := by cases F.ng a <;> cases F.ng b <;> rfl
  rw [hne] at ad4 ad1 ad3 ⊢
  generalize F.cls a = ca at *
  generalize F.ng a = na at *
  generalize F.vl a = va at *
  generalize F.cls b = cb at *
  generalize F.ng b = nb at *
  generalize F.vl b = vb at *
  generalize F.cls c = cc at *
  generalize F.ng c = nc at *
  generalize F.vl c = vc at *
  by_cases q5 : ca = 5 ∨ cb = 5 ∨ cc = 5
  · rw [decide_eq_true q5] at h5
    rw [if_pos q5]
    simp only [deskA, ptA, DyA, A3, dl_zero, List.cons_append, List.nil_append] at *
    repeat' (first | (simp (maxSteps := 1000000) only [evB, if_true, if_false, ne_eq, Nat.reduceEqDiff, Nat.reduceAdd, reduceCtorEq, Int.reduceLE, Int.reduceLT, Int.reduceEq, Int.reduceNeg, Int.reduceToNat, Int.reducePow, Int.reduceMod, Int.reduceDiv, Int.reduceSub, Int.reduceAdd, Int.reduceMul, Nat.reduceMul, Nat.reduceSub, Nat.reducePow, exB, resC_ptr, res_cell, nilb, nilf, faddr_p, c_soft_MulAdd, apart_ip, repA_3, st_bs5, o1, i5_30, i5_31, i5_32, r5_0, r5_5, r5_10, h5, nn]) | (simp (maxSteps := 1000000) (disch := first | with_reducible assumption | omega) only [dxB]) | (simp only [kI_d, kG_dt, kG_df]; split) | (simp only [kI_v, kG_vt, kG_vf]; split))
    all_goals try rfl
  · rw [decide_eq_false q5] at h5
    rw [if_neg q5]
    by_cases q4 : ca = 4 ∨ cb = 4
    · rw [decide_eq_true q4] at h4
      by_cases q1 : ca = 1 ∨ cb = 1
      · rw [decide_eq_true q1] at h1
        rw [if_pos (show (ca = 4 ∨ cb = 4) ∧ (ca = 1 ∨ cb = 1) from ⟨q4, q1⟩)]
        simp only [deskA, ptA, DyA, A3, dl_zero, List.cons_append, List.nil_append] at *
        repeat' (first | (simp (maxSteps := 1000000) only [evB, if_true, if_false, ne_eq, Nat.reduceEqDiff, Nat.reduceAdd, reduceCtorEq, Int.reduceLE, Int.reduceLT, Int.reduceEq, Int.reduceNeg, Int.reduceToNat, Int.reducePow, Int.reduceMod, Int.reduceDiv, Int.reduceSub, Int.reduceAdd, Int.reduceMul, Nat.reduceMul, Nat.reduceSub, Nat.reducePow, exB, resC_ptr, res_cell, nilb, nilf, faddr_p, c_soft_MulAdd, apart_ip, repA_3, st_bs5, o1, i5_30, i5_31, i5_32, r5_0, r5_5, r5_10, h5, h4, h1, nn]) | (simp (maxSteps := 1000000) (disch := first | with_reducible assumption | omega) only [dxB]) | (simp only [kI_d, kG_dt, kG_df]; split) | (simp only [kI_v, kG_vt, kG_vf]; split))
        all_goals try rfl
      · rw [decide_eq_false q1] at h1
        rw [if_neg (show ¬ ((ca = 4 ∨ cb = 4) ∧ (ca = 1 ∨ cb = 1)) from fun h => q1 h.2), if_pos q4, if_neg (by decide)]
        generalize addP F md 4 (!decide (na = nb)) ⟨false, 0, 0⟩ cc nc vc = S at *
        clear ad1 ad3
        simp only [deskA, ptA, DyA, A3, dl_zero, D_nil.symm, List.cons_append, List.nil_append] at *
        repeat' (first | (simp (maxSteps := 1000000) only [evB, if_true, if_false, ne_eq, Nat.reduceEqDiff, Nat.reduceAdd, reduceCtorEq, Int.reduceLE, Int.reduceLT, Int.reduceEq, Int.reduceNeg, Int.reduceToNat, Int.reducePow, Int.reduceMod, Int.reduceDiv, Int.reduceSub, Int.reduceAdd, Int.reduceMul, Nat.reduceMul, Nat.reduceSub, Nat.reducePow, exB, resC_ptr, res_cell, nilb, nilf, faddr_p, c_soft_MulAdd, apart_ip, repA_3, st_bs5, o1, i5_30, i5_31, i5_32, r5_0, r5_5, r5_10, h5, h4, h1, ad4]) | (simp (maxSteps := 1000000) (disch := first | with_reducible assumption | omega) only [dxB]) | (simp only [kI_d, kG_dt, kG_df]; split) | (simp only [kI_v, kG_vt, kG_vf]; split))
        all_goals try rfl
    · rw [decide_eq_false q4] at h4
      rw [if_neg (show ¬ ((ca = 4 ∨ cb = 4) ∧ (ca = 1 ∨ cb = 1)) from fun h => q4 h.1), if_neg q4]
      by_cases q1 : ca = 1 ∨ cb = 1
      · rw [decide_eq_true q1] at h1
        rw [if_pos q1, if_neg (by decide)]
        generalize addP F md 1 (!decide (na = nb)) ⟨false, 0, 0⟩ cc nc vc = S at *
        clear ad4 ad3
        simp only [deskA, ptA, DyA, A3, dl_zero, D_nil.symm, List.cons_append, List.nil_append] at *
        repeat' (first | (simp (maxSteps := 1000000) only [evB, if_true, if_false, ne_eq, Nat.reduceEqDiff, Nat.reduceAdd, reduceCtorEq, Int.reduceLE, Int.reduceLT, Int.reduceEq, Int.reduceNeg, Int.reduceToNat, Int.reducePow, Int.reduceMod, Int.reduceDiv, Int.reduceSub, Int.reduceAdd, Int.reduceMul, Nat.reduceMul, Nat.reduceSub, Nat.reducePow, exB, resC_ptr, res_cell, nilb, nilf, faddr_p, c_soft_MulAdd, apart_ip, repA_3, st_bs5, o1, i5_30, i5_31, i5_32, r5_0, r5_5, r5_10, h5, h4, h1, ad1]) | (simp (maxSteps := 1000000) (disch := first | with_reducible assumption | omega) only [dxB]) | (simp only [kI_d, kG_dt, kG_df]; split) | (simp only [kI_v, kG_vt, kG_vf]; split))
        all_goals try rfl
      · rw [decide_eq_false q1] at h1
        rw [if_neg q1, if_pos rfl]
        generalize addP F md 3 (!decide (na = nb)) s cc nc vc = S at *
        clear ad4 ad1
        simp only [deskA, ptA, DyA, A3, dl_zero, List.cons_append, List.nil_append] at *
        repeat' (first | (simp (maxSteps := 1000000) only [evB, if_true, if_false, ne_eq, Nat.reduceEqDiff, Nat.reduceAdd, reduceCtorEq, Int.reduceLE, Int.reduceLT, Int.reduceEq, Int.reduceNeg, Int.reduceToNat, Int.reducePow, Int.reduceMod, Int.reduceDiv, Int.reduceSub, Int.reduceAdd, Int.reduceMul, Nat.reduceMul, Nat.reduceSub, Nat.reducePow, exB, resC_ptr, res_cell, nilb, nilf, faddr_p, c_soft_MulAdd, apart_ip, repA_3, st_bs5, o1, i5_30, i5_31, i5_32, r5_0, r5_5, r5_10, h5, h4, h1, m1, ad3]) | (simp (maxSteps := 1000000) (disch := first | with_reducible assumption | omega) only [dxB]) | (simp only [kI_d, kG_dt, kG_df]; split) | (simp only [kI_v, kG_vt, kG_vf]; split))
        all_goals try rfl
end Go.Cv

/-
  The document's fused product and sum; what is refused ahead of all else.
-/
namespace Go.Cv
variable {G : Nat → Option (List AV)} {T : Tbl} {g : Nat}

theorem op5_loop (e : Env) (h : Heap) : evL G T c_ref05_Opens_l1 e h = kS G T (evL G T c_ref05_Opens_b1 (keepE [0, 2, 7] e) h) c_ref05_Opens_l1 := s_loopc G T rfl e h
theorem ref05_Opens_no (hD : HasD g T) (hU : HasG g T) {f md : Int} (h : ¬ (f = 1 ∨ f = 2)) {v : AV} : run G T 162 [.int .u8 f, .int .u8 md, v] = some (.int .i64 4) := by
  rw [run_k G T hU.ref05_Opens]
  have h1 := ref03_Is (G := G) (T := T) hD (f := f)
  rw [decide_eq_false h] at h1
  repeat' (first | (simp (maxSteps := 1000000) only [evB, if_true, if_false, ne_eq, Nat.reduceEqDiff, Nat.reduceAdd, reduceCtorEq, Int.reduceLE, Int.reduceLT, Int.reduceEq, Int.reduceNeg, Int.reduceToNat, Int.reducePow, Int.reduceMod, Int.reduceDiv, Int.reduceSub, Int.reduceAdd, Int.reduceMul, Nat.reduceMul, Nat.reduceSub, Nat.reducePow, exB, resC_ptr, res_cell, nilb, nilf, faddr_p, c_ref05_Opens, h1]) | (simp (maxSteps := 1000000) (disch := first | with_reducible assumption | omega) only [dxB]) | (simp only [kI_d, kG_dt, kG_df]; split) | (simp only [kI_v, kG_vt, kG_vf]; split))
theorem ref05_Opens_mode (hD : HasD g T) (hE : HasE g T) (hU : HasG g T) (F : Fm) {md : Int} (h : ¬ (1 ≤ md ∧ md ≤ 5)) {v : AV} : run G T 162 [.int .u8 F.u, .int .u8 md, v] = some (.int .i64 5) := by
  rw [run_k G T hU.ref05_Opens]
  have h1 := ref03_IsF (G := G) (T := T) hD F
  have h2 := ref04_Is (G := G) (T := T) hE (m := md)
  rw [decide_eq_false h] at h2
  repeat' (first | (simp (maxSteps := 1000000) only [evB, if_true, if_false, ne_eq, Nat.reduceEqDiff, Nat.reduceAdd, reduceCtorEq, Int.reduceLE, Int.reduceLT, Int.reduceEq, Int.reduceNeg, Int.reduceToNat, Int.reducePow, Int.reduceMod, Int.reduceDiv, Int.reduceSub, Int.reduceAdd, Int.reduceMul, Nat.reduceMul, Nat.reduceSub, Nat.reducePow, exB, resC_ptr, res_cell, nilb, nilf, faddr_p, c_ref05_Opens, h1, h2]) | (simp (maxSteps := 1000000) (disch := first | with_reducible assumption | omega) only [dxB]) | (simp only [kI_d, kG_dt, kG_df]; split) | (simp only [kI_v, kG_vt, kG_vf]; split))
theorem ref05_Opens0 (hD : HasD g T) (hE : HasE g T) (hU : HasG g T) (F : Fm) {md : Int} (hm : 1 ≤ md ∧ md ≤ 5) : run G T 162 [.int .u8 F.u, .int .u8 md, .nil] = some (.int .i64 0) := by
  rw [run_k G T hU.ref05_Opens]
  have h1 := ref03_IsF (G := G) (T := T) hD F
  have h2 := ref04_Is (G := G) (T := T) hE (m := md)
  rw [decide_eq_true hm] at h2
  repeat' (first | (simp (maxSteps := 1000000) only [evB, if_true, if_false, ne_eq, Nat.reduceEqDiff, Nat.reduceAdd, reduceCtorEq, Int.reduceLE, Int.reduceLT, Int.reduceEq, Int.reduceNeg, Int.reduceToNat, Int.reducePow, Int.reduceMod, Int.reduceDiv, Int.reduceSub, Int.reduceAdd, Int.reduceMul, Nat.reduceMul, Nat.reduceSub, Nat.reducePow, exB, resC_ptr, res_cell, nilb, nilf, faddr_p, c_ref05_Opens, h1, h2, op5_loop, c_ref05_Opens_b1]) | (simp (maxSteps := 1000000) (disch := first | with_reducible assumption | omega) only [dxB]) | (simp only [kI_d, kG_dt, kG_df]; split) | (simp only [kI_v, kG_vt, kG_vf]; split))
theorem ref05_Opens2 (hD : HasD g T) (hE : HasE g T) (hF : HasF g T) (hU : HasG g T) (F : Fm) {md : Int} (hm : 1 ≤ md ∧ md ≤ 5) {a b : Nat} (ha : a < 18446744073709551616) (hb : b < 18446744073709551616) :
    run G T 162 [.int .u8 F.u, .int .u8 md, .imm 2 [.int .u64 (a : Int), .int .u64 (b : Int)]] = some (.int .i64 (if a < 2 * F.sg ∧ b < 2 * F.sg then 0 else 6)) := by
  rw [run_k G T hU.ref05_Opens]
  have h1 := ref03_IsF (G := G) (T := T) hD F
  have h2 := ref04_Is (G := G) (T := T) hE (m := md)
  rw [decide_eq_true hm] at h2
  have h3 := ref03_Good (G := G) (T := T) hD hF F ha
  have h4 := ref03_Good (G := G) (T := T) hD hF F hb
  by_cases k1 : a < 2 * F.sg
  · rw [if_pos k1] at h3
    by_cases k2 : b < 2 * F.sg
    · rw [if_pos k2] at h4
      rw [if_pos ⟨k1, k2⟩]
      repeat' (first | (simp (maxSteps := 1000000) only [evB, if_true, if_false, ne_eq, Nat.reduceEqDiff, Nat.reduceAdd, reduceCtorEq, Int.reduceLE, Int.reduceLT, Int.reduceEq, Int.reduceNeg, Int.reduceToNat, Int.reducePow, Int.reduceMod, Int.reduceDiv, Int.reduceSub, Int.reduceAdd, Int.reduceMul, Nat.reduceMul, Nat.reduceSub, Nat.reducePow, exB, resC_ptr, res_cell, nilb, nilf, faddr_p, c_ref05_Opens, h1, h2, op5_loop, c_ref05_Opens_b1, iw20, iw21, rp_0, rp_1, wr_1, wr1, wr_2, wr2, h3, h4]) | (simp (maxSteps := 1000000) (disch := first | with_reducible assumption | omega) only [dxB]) | (simp only [kI_d, kG_dt, kG_df]; split) | (simp only [kI_v, kG_vt, kG_vf]; split))
    · rw [if_neg k2] at h4
      rw [if_neg (fun h => k2 h.2)]
      repeat' (first | (simp (maxSteps := 1000000) only [evB, if_true, if_false, ne_eq, Nat.reduceEqDiff, Nat.reduceAdd, reduceCtorEq, Int.reduceLE, Int.reduceLT, Int.reduceEq, Int.reduceNeg, Int.reduceToNat, Int.reducePow, Int.reduceMod, Int.reduceDiv, Int.reduceSub, Int.reduceAdd, Int.reduceMul, Nat.reduceMul, Nat.reduceSub, Nat.reducePow, exB, resC_ptr, res_cell, nilb, nilf, faddr_p, c_ref05_Opens, h1, h2, op5_loop, c_ref05_Opens_b1, iw20, iw21, rp_0, rp_1, wr_1, wr1, wr_2, wr2, h3, h4]) | (simp (maxSteps := 1000000) (disch := first | with_reducible assumption | omega) only [dxB]) | (simp only [kI_d, kG_dt, kG_df]; split) | (simp only [kI_v, kG_vt, kG_vf]; split))
  · rw [if_neg k1] at h3
    rw [if_neg (fun h => k1 h.1)]
    repeat' (first | (simp (maxSteps := 1000000) only [evB, if_true, if_false, ne_eq, Nat.reduceEqDiff, Nat.reduceAdd, reduceCtorEq, Int.reduceLE, Int.reduceLT, Int.reduceEq, Int.reduceNeg, Int.reduceToNat, Int.reducePow, Int.reduceMod, Int.reduceDiv, Int.reduceSub, Int.reduceAdd, Int.reduceMul, Nat.reduceMul, Nat.reduceSub, Nat.reducePow, exB, resC_ptr, res_cell, nilb, nilf, faddr_p, c_ref05_Opens, h1, h2, op5_loop, c_ref05_Opens_b1, iw20, iw21, rp_0, rp_1, wr_1, wr1, wr_2, wr2, h3]) | (simp (maxSteps := 1000000) (disch := first | with_reducible assumption | omega) only [dxB]) | (simp only [kI_d, kG_dt, kG_df]; split) | (simp only [kI_v, kG_vt, kG_vf]; split))
section
variable {f md a b c e : Int}
end
end Go.Cv

/-
  The document's fused product and sum.
-/
namespace Go.Cv
variable {G : Nat → Option (List AV)} {T : Tbl} {g : Nat}

end Go.Cv

/-
  The program's comparison of dyadic numbers.
-/
namespace Go.Cv
variable {G : Nat → Option (List AV)} {T : Tbl} {g : Nat}

end Go.Cv

/-
  The program's moduli.
-/
namespace Go.Cv
variable {G : Nat → Option (List AV)} {T : Tbl} {g : Nat}

end Go.Cv

/-
  The document's moduli; what is refused.
-/
namespace Go.Cv
variable {G : Nat → Option (List AV)} {T : Tbl} {g : Nat}

section
variable (x y u v : AV) (k : IntKind)
end
end Go.Cv

/-
  Numbers turned, changed, taken on an axis: their moduli.
-/
namespace Go.Cv
variable {G : Nat → Option (List AV)} {T : Tbl} {g : Nat}

def Fm.min (F : Fm) (w : Nat) : Nat := if F.cls w = 5 then F.nan else F.flip w
theorem nan_facts (F : Fm) : F.nan < 2 * F.sg ∧ F.cls F.nan = 5 ∧ F.vl F.nan = ⟨false, 0, 0⟩ := by
  have h1 : F.cls F.nan = 5 := by cases F <;> decide
  refine ⟨by cases F <;> decide, h1, if_neg ?_⟩
  rw [fin_iff, h1]; decide
/-- Alike, as far as a modulus asks. -/
def Sim (F : Fm) (a b : Nat) : Prop := F.cls a = F.cls b ∧ mulD (F.vl a) (F.vl a) = mulD (F.vl b) (F.vl b)
theorem Sim.refl (F : Fm) (a : Nat) : Sim F a a := ⟨rfl, rfl⟩
theorem Sim.trans {F : Fm} {a b c : Nat} (h : Sim F a b) (k : Sim F b c) : Sim F a c := ⟨h.1.trans k.1, h.2.trans k.2⟩
theorem neg_mul (d : Dy) : mulD (negD d) (negD d) = mulD d d := by
  unfold negD
  split
  · rfl
  · unfold mulD; simp only; cases d.n <;> rfl
theorem mulD_z0 {a b : Dy} (h : a.m = 0 ∨ b.m = 0) : mulD a b = ⟨false, 0, 0⟩ := by
  unfold mulD
  rcases h with h | h
  · rw [h, Nat.zero_mul]; rfl
  · rw [h, Nat.mul_zero]; rfl
end Go.Cv

/-
  A number that fits is a word's value; a difference of near numbers fits.
-/
namespace Go.Cv

theorem val_enc (F : Fm) (n : Bool) {k : Nat} {u : Int} (hk0 : k ≠ 0) (hk1 : k < 2 ^ (F.fr + 1)) (hu : F.low ≤ u) (hku : u = F.low ∨ 2 ^ F.fr ≤ k) (hs : F.enc k u < F.i0) : F.val (F.enc k u + F.sgn n) = mkD n k u := by
  have hi := fm_i0 F
  obtain ⟨e1, e2⟩ := sgn_mod n (by omega : F.enc k u < F.sg)
  have hp := Nat.two_pow_pos F.fr
  rw [Nat.pow_succ] at hk1
  unfold Fm.val Fm.ex Fm.fc
  rw [e1, e2]
  rcases Nat.lt_or_ge k (2 ^ F.fr) with h | h
  · have hul : u = F.low := by
      rcases hku with q | q
      · exact q
      · omega
    have hE : F.enc k u = k := by unfold Fm.enc; rw [hul, Int.sub_self]; simp
    rw [hE, Nat.div_eq_of_lt h, if_pos rfl, Nat.mod_eq_of_lt h, hul]
  · have hE : F.enc k u = (k - 2 ^ F.fr) + 2 ^ F.fr * ((u - F.low).toNat + 1) := by
      unfold Fm.enc; rw [Nat.mul_add, Nat.mul_one, Nat.mul_comm]; omega
    have hlt : k - 2 ^ F.fr < 2 ^ F.fr := by omega
    have hd : F.enc k u / 2 ^ F.fr = (u - F.low).toNat + 1 := by
      rw [hE, Nat.add_mul_div_left _ _ hp, Nat.div_eq_of_lt hlt, Nat.zero_add]
    have hm : F.enc k u % 2 ^ F.fr = k - 2 ^ F.fr := by
      rw [hE, Nat.add_mul_mod_self_left, Nat.mod_eq_of_lt hlt]
    rw [hd, hm, if_neg (by omega), show 2 ^ F.fr + (k - 2 ^ F.fr) = k by omega]
    congr 1
    omega

theorem fit_word (F : Fm) {d : Dy} (h : F.fits d) (ho : d.m % 2 = 1) : ∃ s, s ≠ 0 ∧ s < F.i0 ∧ F.val (s + F.sgn d.n) = d := by
  obtain ⟨h0, h1, h2, h3⟩ := h
  have hF := fm_facts F
  obtain ⟨u, hu⟩ : ∃ u : Int, u = max (d.e + blen d.m - F.fr - 1) F.low := ⟨_, rfl⟩
  have hbp := blen_pos h0
  have hbk := blen_mul h0 (d.e - u).toNat
  have hk0 : d.m * 2 ^ (d.e - u).toNat ≠ 0 := by intro hc; rw [hc, blen_zero] at hbk; omega
  have hk1 : d.m * 2 ^ (d.e - u).toNat < 2 ^ (F.fr + 1) := blen_le.1 (by omega)
  have hku : u = F.low ∨ 2 ^ F.fr ≤ d.m * 2 ^ (d.e - u).toNat := by
    by_cases q : u = F.low
    · exact Or.inl q
    · right; exact lt_blen.1 (by omega)
  have hbig := enc_big F (n := d.m * 2 ^ (d.e - u).toNat) (u := u) (by omega) (by omega) hku
  have hs : F.enc (d.m * 2 ^ (d.e - u).toNat) u < F.i0 := by
    rcases Nat.lt_or_ge (F.enc (d.m * 2 ^ (d.e - u).toNat) u) F.i0 with q | q
    · exact q
    · have := hbig.2 q; omega
  refine ⟨F.enc (d.m * 2 ^ (d.e - u).toNat) u, ?_, hs, ?_⟩
  · unfold Fm.enc; omega
  · rw [val_enc F d.n hk0 hk1 (by omega) hku hs]
    have := mkD_oddp (n := d.n) (e := d.e) ho (d.e - u).toNat
    rw [show d.e - ((d.e - u).toNat : Int) = u by omega] at this
    exact this

theorem fits_val (F : Fm) {w : Nat} (hf : F.fin w) (h0 : (F.val w).m ≠ 0) : F.fits (F.val w) := by
  have hF := fm_facts F
  have hwd : F.low + F.fr + F.most - 1 = F.wide := by cases F <;> decide
  have hy : F.fc w < 2 ^ F.fr := Nat.mod_lt _ (Nat.two_pow_pos _)
  unfold Fm.fin at hf
  unfold Fm.val at h0 ⊢
  by_cases hx : F.ex w = 0
  · rw [if_pos hx] at h0 ⊢
    have hk : F.fc w ≠ 0 := by intro hc; rw [hc] at h0; exact h0 rfl
    have hb := blen_le.2 hy
    exact mkD_fits hk (by rw [Nat.pow_succ]; omega) (Int.le_refl _) (by omega)
  · rw [if_neg hx] at h0 ⊢
    have hk : 2 ^ F.fr + F.fc w ≠ 0 := by have := Nat.two_pow_pos F.fr; omega
    have hb : blen (2 ^ F.fr + F.fc w) ≤ F.fr + 1 := blen_le.2 (by rw [Nat.pow_succ]; omega)
    exact mkD_fits hk (by rw [Nat.pow_succ]; omega) (by omega) (by omega)

/-- STERBENZ. -/
theorem sterbenz (F : Fm) {x y : Dy} (fx : x.m ≠ 0 → F.fits x) (fy : y.m ≠ 0 → F.fits y) (hn : x.n = y.n) (h1 : cmpD (absD x) (shD (absD y) 1) ≤ 0) (h2 : cmpD (absD y) (shD (absD x) 1) ≤ 0) (h0 : (subD x y).m ≠ 0) : F.fits (subD x y) := by
  obtain ⟨L, hL⟩ : ∃ L : Int, L = min x.e y.e := ⟨_, rfl⟩
  have lx : LoE x L := Or.inr (by omega)
  have ly : LoE y L := Or.inr (by omega)
  have sh : ∀ (d : Dy) (h : LoE d L), iv (shD (absD d) 1) L = 2 * ((d.m * 2 ^ (d.e - L).toNat : Nat) : Int) ∧ LoE (shD (absD d) 1) L := fun d h => by
    unfold shD absD
    by_cases q : d.m = 0
    · simp only [q, if_true]; exact ⟨by simp [iv], Or.inl rfl⟩
    · simp only [q, if_false]
      have hl := h.resolve_left q
      refine ⟨?_, Or.inr (by simp only; omega)⟩
      unfold iv
      simp only [Bool.false_eq_true, if_false, Int.one_mul]
      rw [show (d.e + 1 - L).toNat = (d.e - L).toNat + 1 by omega, Nat.pow_succ, ← Nat.mul_assoc]; omega
  have la : ∀ (d : Dy) (h : LoE d L), LoE (absD d) L := fun d h => h
  rw [cmp_iv (la x lx) (sh y ly).2, iv_abs, (sh y ly).1] at h1
  rw [cmp_iv (la y ly) (sh x lx).2, iv_abs, (sh x lx).1] at h2
  have hs := iv_add lx (LoE_neg ly)
  rw [iv_neg] at hs
  rw [show addD x (negD y) = subD x y from rfl] at hs
  obtain ⟨hs1, hs2⟩ := hs
  have hle := hs2.resolve_left h0
  unfold iv at hs1
  rw [hn] at hs1
  generalize hD : (subD x y).m * 2 ^ ((subD x y).e - L).toNat = D at *
  generalize hX : x.m * 2 ^ (x.e - L).toNat = X at *
  generalize hY : y.m * 2 ^ (y.e - L).toNat = Y at *
  have g1 : (X : Int) ≤ 2 * Y := by
    unfold sgI at h1; split at h1
    · omega
    · split at h1 <;> omega
  have g2 : (Y : Int) ≤ 2 * X := by
    unfold sgI at h2; split at h2
    · omega
    · split at h2 <;> omega
  have dX : D ≤ X ∧ D ≤ Y := by
    generalize (subD x y).n = p at *
    generalize y.n = q at *
    cases p <;> cases q <;> simp only [Bool.false_eq_true, if_false, if_true] at hs1 <;> omega
  have Dp : 0 < D := by rw [← hD]; exact Nat.mul_pos (Nat.pos_of_ne_zero h0) (Nat.two_pow_pos _)
  have x0 : x.m ≠ 0 := by intro hc; rw [hc, Nat.zero_mul] at hX; omega
  have y0 : y.m ≠ 0 := by intro hc; rw [hc, Nat.zero_mul] at hY; omega
  obtain ⟨_, x1, x2, x3⟩ := fx x0
  obtain ⟨_, y1, y2, y3⟩ := fy y0
  have bD := blen_mul h0 ((subD x y).e - L).toNat
  have bX := blen_mul x0 (x.e - L).toNat
  have bY := blen_mul y0 (y.e - L).toNat
  rw [hD] at bD
  rw [hX] at bX
  rw [hY] at bY
  have m1 := blen_mono dX.1
  have m2 := blen_mono dX.2
  exact ⟨h0, by omega, by omega, by omega⟩
end Go.Cv

/-
  The statement on differences of near numbers.
-/
namespace Go.Cv
variable {G : Nat → Option (List AV)} {T : Tbl} {g : Nat}

theorem fn_loop (e : Env) (h : Heap) : evL G T c_law05_finite_l1 e h = kS G T (evL G T c_law05_finite_b1 (keepE [0, 1, 5] e) h) c_law05_finite_l1 := s_loopc G T rfl e h
theorem law05_finite2 (hD : HasD g T) (hE : HasE g T) (hF : HasF g T) (hU : HasG g T) (hV : HasH g T) {f : Int} {a b : Nat} (ha : a < 18446744073709551616) (hb : b < 18446744073709551616) :
    (run G T 226 [.int .u8 f, .imm 2 [.int .u64 (a : Int), .int .u64 (b : Int)]] = some (.bool false)) ∨
    (∃ F, f = Fm.u F ∧ (a < 2 * F.sg ∧ b < 2 * F.sg) ∧ (F.fin a ∧ F.fin b) ∧ run G T 226 [.int .u8 f, .imm 2 [.int .u64 (a : Int), .int .u64 (b : Int)]] = some (.bool true)) := by
  rw [run_k G T hV.law05_finite]
  by_cases hf : f = 1 ∨ f = 2
  · obtain ⟨F, rfl⟩ := fm_of hf
    have h1 := ref05_Opens2 (G := G) (T := T) hD hE hF hU F (md := 1) (by omega) ha hb
    by_cases k : a < 2 * F.sg ∧ b < 2 * F.sg
    · rw [if_pos k] at h1
      have f1 := ref03_Finite (G := G) (T := T) hD hF F ha
      have f2 := ref03_Finite (G := G) (T := T) hD hF F hb
      by_cases p : F.fin a
      · rw [decide_eq_true p] at f1
        by_cases q : F.fin b
        · rw [decide_eq_true q] at f2
          right
          refine ⟨F, rfl, k, ⟨p, q⟩, ?_⟩
          repeat' (first | (simp (maxSteps := 1000000) only [evB, if_true, if_false, ne_eq, Nat.reduceEqDiff, Nat.reduceAdd, reduceCtorEq, Int.reduceLE, Int.reduceLT, Int.reduceEq, Int.reduceNeg, Int.reduceToNat, Int.reducePow, Int.reduceMod, Int.reduceDiv, Int.reduceSub, Int.reduceAdd, Int.reduceMul, Nat.reduceMul, Nat.reduceSub, Nat.reducePow, exB, resC_ptr, res_cell, nilb, nilf, faddr_p, c_law05_finite, h1, fn_loop, c_law05_finite_b1, iw20, iw21, rp_0, rp_1, wr_1, wr1, wr_2, wr2, f1, f2]) | (simp (maxSteps := 1000000) (disch := first | with_reducible assumption | omega) only [dxB]) | (simp only [kI_d, kG_dt, kG_df]; split) | (simp only [kI_v, kG_vt, kG_vf]; split))
        · rw [decide_eq_false q] at f2
          left
          repeat' (first | (simp (maxSteps := 1000000) only [evB, if_true, if_false, ne_eq, Nat.reduceEqDiff, Nat.reduceAdd, reduceCtorEq, Int.reduceLE, Int.reduceLT, Int.reduceEq, Int.reduceNeg, Int.reduceToNat, Int.reducePow, Int.reduceMod, Int.reduceDiv, Int.reduceSub, Int.reduceAdd, Int.reduceMul, Nat.reduceMul, Nat.reduceSub, Nat.reducePow, exB, resC_ptr, res_cell, nilb, nilf, faddr_p, c_law05_finite, h1, fn_loop, c_law05_finite_b1, iw20, iw21, rp_0, rp_1, wr_1, wr1, wr_2, wr2, f1, f2]) | (simp (maxSteps := 1000000) (disch := first | with_reducible assumption | omega) only [dxB]) | (simp only [kI_d, kG_dt, kG_df]; split) | (simp only [kI_v, kG_vt, kG_vf]; split))
      · rw [decide_eq_false p] at f1
        left
        repeat' (first | (simp (maxSteps := 1000000) only [evB, if_true, if_false, ne_eq, Nat.reduceEqDiff, Nat.reduceAdd, reduceCtorEq, Int.reduceLE, Int.reduceLT, Int.reduceEq, Int.reduceNeg, Int.reduceToNat, Int.reducePow, Int.reduceMod, Int.reduceDiv, Int.reduceSub, Int.reduceAdd, Int.reduceMul, Nat.reduceMul, Nat.reduceSub, Nat.reducePow, exB, resC_ptr, res_cell, nilb, nilf, faddr_p, c_law05_finite, h1, fn_loop, c_law05_finite_b1, iw20, iw21, rp_0, rp_1, wr_1, wr1, wr_2, wr2, f1]) | (simp (maxSteps := 1000000) (disch := first | with_reducible assumption | omega) only [dxB]) | (simp only [kI_d, kG_dt, kG_df]; split) | (simp only [kI_v, kG_vt, kG_vf]; split))
    · rw [if_neg k] at h1
      left
      repeat' (first | (simp (maxSteps := 1000000) only [evB, if_true, if_false, ne_eq, Nat.reduceEqDiff, Nat.reduceAdd, reduceCtorEq, Int.reduceLE, Int.reduceLT, Int.reduceEq, Int.reduceNeg, Int.reduceToNat, Int.reducePow, Int.reduceMod, Int.reduceDiv, Int.reduceSub, Int.reduceAdd, Int.reduceMul, Nat.reduceMul, Nat.reduceSub, Nat.reducePow, exB, resC_ptr, res_cell, nilb, nilf, faddr_p, c_law05_finite, h1]) | (simp (maxSteps := 1000000) (disch := first | with_reducible assumption | omega) only [dxB]) | (simp only [kI_d, kG_dt, kG_df]; split) | (simp only [kI_v, kG_vt, kG_vf]; split))
  · have h1 := ref05_Opens_no (G := G) (T := T) hD hU hf (md := 1) (v := .imm 2 [.int .u64 (a : Int), .int .u64 (b : Int)])
    left
    repeat' (first | (simp (maxSteps := 1000000) only [evB, if_true, if_false, ne_eq, Nat.reduceEqDiff, Nat.reduceAdd, reduceCtorEq, Int.reduceLE, Int.reduceLT, Int.reduceEq, Int.reduceNeg, Int.reduceToNat, Int.reducePow, Int.reduceMod, Int.reduceDiv, Int.reduceSub, Int.reduceAdd, Int.reduceMul, Nat.reduceMul, Nat.reduceSub, Nat.reducePow, exB, resC_ptr, res_cell, nilb, nilf, faddr_p, c_law05_finite, h1]) | (simp (maxSteps := 1000000) (disch := first | with_reducible assumption | omega) only [dxB]) | (simp only [kI_d, kG_dt, kG_df]; split) | (simp only [kI_v, kG_vt, kG_vf]; split))

theorem subW_fin (F : Fm) (md : Int) {a b : Nat} (fa : F.fin a) (fb : F.fin b) :
    (F.cls a = 1 ∧ F.cls b = 1 ∧ subW F md a b = (F.sgn (F.ng a), 0)) ∨ subW F md a b = sumW F md (subD (F.vl a) (F.vl b)) := by
  have ra := fin_iff.1 fa
  have rb := fin_iff.1 fb
  unfold subW addP
  rw [if_neg (show ¬ (F.cls a = 5 ∨ F.cls b = 5) by omega), if_neg (show ¬ (F.cls a = 4 ∧ F.cls b = 4 ∧ F.ng a ≠ !F.ng b) from fun h => by have := h.1; omega), if_neg (show ¬ F.cls a = 4 by omega), if_neg (show ¬ F.cls b = 4 by omega)]
  by_cases h : F.cls a = 1 ∧ F.cls b = 1 ∧ F.ng a = !F.ng b
  · left; rw [if_pos h]; exact ⟨h.1, h.2.1, rfl⟩
  · right; rw [if_neg h]; rfl

/-- The word of a number that fits. -/
theorem sum_fit (F : Fm) {md : Int} {d : Dy} (hz : Nz d) (hf : d.m ≠ 0 → F.fits d) : ∃ w : Nat, sumW F md d = (w, 0) ∧ w < 2 * F.sg ∧ F.fin w ∧ F.val w = d := by
  have hi := fm_i0 F
  unfold sumW
  by_cases h0 : d.m = 0
  · rw [if_pos h0]
    refine ⟨F.sgn (decide (md = 5)), rfl, ?_, ?_, ?_⟩
    · unfold Fm.sgn; split <;> omega
    · have := fin_size (F := F) (s := 0) (decide (md = 5)) hi.2.1
      rwa [Nat.zero_add] at this
    · have := val_zero F (decide (md = 5))
      rw [Nat.zero_add] at this
      rw [this, hz.1 h0]
  · rw [if_neg h0]
    obtain ⟨s, s0, s1, s2⟩ := fit_word F (hf h0) (hz.2 h0)
    have hr := (round_val F md d.n s1 s0).1
    rw [s2] at hr
    refine ⟨s + F.sgn d.n, hr, ?_, fin_size d.n s1, s2⟩
    unfold Fm.sgn; split <;> omega
theorem near (F : Fm) {md : Int} {a b : Nat} (ha : a < 2 * F.sg) (hb : b < 2 * F.sg) (fa : F.fin a) (fb : F.fin b) (hn : (F.vl a).n = (F.vl b).n) (h1 : cmpD (absD (F.vl a)) (shD (absD (F.vl b)) 1) ≤ 0) (h2 : cmpD (absD (F.vl b)) (shD (absD (F.vl a)) 1) ≤ 0) :
    ∃ w : Nat, subW F md a b = (w, 0) ∧ w < 2 * F.sg ∧ F.fin w ∧ F.val w = subD (F.vl a) (F.vl b) := by
  have hi := fm_i0 F
  rcases subW_fin F md fa fb with ⟨k1, k2, h⟩ | h
  · rw [h]
    refine ⟨F.sgn (F.ng a), rfl, ?_, ?_, ?_⟩
    · unfold Fm.sgn; split <;> omega
    · have := fin_size (F := F) (s := 0) (F.ng a) hi.2.1
      rwa [Nat.zero_add] at this
    · have := val_zero F (F.ng a)
      rw [Nat.zero_add] at this
      rw [this, vl_val fa, vl_val fb, (cls_zero_w ha k1).2, (cls_zero_w hb k2).2]; rfl
  · rw [h]
    refine sum_fit F (Nz_add (Nz_vl F a) (Nz_neg (Nz_vl F b))) (sterbenz F ?_ ?_ hn h1 h2)
    · intro q; rw [vl_val fa] at q ⊢; exact fits_val F fa q
    · intro q; rw [vl_val fb] at q ⊢; exact fits_val F fb q

end Go.Cv

/-
  What rounding to the nearest loses, in whole numbers (units of the least exponent).
-/
namespace Go.Cv

def P2 (k : Nat) : Int := ((2 ^ k : Nat) : Int)
theorem P2_pos (k : Nat) : 0 < P2 k := by unfold P2; have := Nat.two_pow_pos k; omega
theorem P2_succ (k : Nat) : P2 (k + 1) = 2 * P2 k := by unfold P2; rw [Nat.pow_succ]; omega
theorem P2_dvd {i k : Nat} (h : i ≤ k) : P2 i ∣ P2 k := by
  unfold P2; exact Int.natCast_dvd_natCast.2 (Nat.pow_dvd_pow 2 h)
theorem P2_le {i k : Nat} (h : i ≤ k) : P2 i ≤ P2 k := by
  have := Nat.pow_le_pow_right (n := 2) (by decide) h; unfold P2; omega
def bl (n : Int) : Nat := blen n.natAbs
theorem bl_le {n : Int} {k : Nat} : bl n ≤ k ↔ (n < P2 k ∧ -n < P2 k) := by
  unfold bl P2; rw [blen_le]; omega
theorem bl_ge {n : Int} (h : n ≠ 0) : P2 (bl n - 1) ≤ n ∨ P2 (bl n - 1) ≤ -n := by
  unfold bl P2; have := pow_blen_le (n := n.natAbs) (by omega); omega
theorem bl_neg (n : Int) : bl (-n) = bl n := by unfold bl; rw [Int.natAbs_neg]
theorem bl_mono {a b : Int} (h : a.natAbs ≤ b.natAbs) : bl a ≤ bl b := blen_mono h
theorem dvd_small {k : Nat} {x : Int} (h : P2 k ∣ x) (h1 : x < P2 k) (h2 : -x < P2 k) : x = 0 := by
  obtain ⟨q, rfl⟩ := h
  have hp := P2_pos k
  rcases Int.lt_trichotomy q 0 with hq | hq | hq
  · have := Int.mul_le_mul_of_nonneg_left (show q ≤ -1 by omega) (Int.le_of_lt hp); omega
  · rw [hq, Int.mul_zero]
  · have := Int.mul_le_mul_of_nonneg_left (show 1 ≤ q by omega) (Int.le_of_lt hp); omega

/-- A whole number of at most p bits, behind which there are noughts. -/
def Rep (p : Nat) (n : Int) : Prop := P2 (bl n - p) ∣ n
/-- r: n to p bits, to the nearest. -/
def Rn (p : Nat) (n r : Int) : Prop := Rep p r ∧ P2 (bl n - p) ∣ r ∧ 2 * (r - n) ≤ P2 (bl n - p) ∧ 2 * (n - r) ≤ P2 (bl n - p)

theorem Rep.neg {p : Nat} {n : Int} (h : Rep p n) : Rep p (-n) := by
  unfold Rep at h ⊢; rw [bl_neg]; exact Int.dvd_neg.2 h
theorem Rep.sub_comm {p : Nat} {a b : Int} (h : Rep p (a - b)) : Rep p (b - a) := by
  have := h.neg; rwa [Int.neg_sub] at this
theorem Rep_of {p i : Nat} {n : Int} (h1 : P2 i ∣ n) (h2 : bl n ≤ p + i) : Rep p n := Int.dvd_trans (P2_dvd (by omega)) h1
theorem Rep_zero (p : Nat) : Rep p 0 := Int.dvd_zero _
theorem Rn.neg {p : Nat} {n r : Int} (h : Rn p n r) : Rn p (-n) (-r) := by
  obtain ⟨h0, h1, h2, h3⟩ := h
  unfold Rn; rw [bl_neg]
  exact ⟨h0.neg, Int.dvd_neg.2 h1, by omega, by omega⟩
theorem Rn.exact {p : Nat} {n r : Int} (h : Rn p n r) {i : Nat} (hi : P2 i ∣ n) (hk : bl n - p ≤ i) : r = n := by
  obtain ⟨_, h1, h2, h3⟩ := h
  have hp := P2_pos (bl n - p)
  have := dvd_small (Int.dvd_sub h1 (Int.dvd_trans (P2_dvd hk) hi)) (by omega) (by omega)
  omega
theorem Rn.rep {p : Nat} {n r : Int} (h : Rn p n r) (hn : Rep p n) : r = n := h.exact hn (Nat.le_refl _)

/-- Nothing is nearer. -/
theorem Rn.near {p : Nat} (hp : 1 ≤ p) {n r c : Int} (h : Rn p n r) (hc : Rep p c) : r - n ≤ (c - n).natAbs ∧ n - r ≤ (c - n).natAbs := by
  have key : ∀ c, P2 (bl n - p) ∣ c → r - n ≤ (c - n).natAbs ∧ n - r ≤ (c - n).natAbs := fun c hc => by
    obtain ⟨_, h1, h2, h3⟩ := h
    by_cases q : r = c
    · subst q; omega
    · have hd := Int.dvd_sub h1 hc
      have hs : ¬ (r - c < P2 (bl n - p) ∧ -(r - c) < P2 (bl n - p)) := fun q1 => q (by have := dvd_small hd q1.1 q1.2; omega)
      omega
  by_cases q : bl n - p ≤ bl c - p
  · exact key c (Int.dvd_trans (P2_dvd q) hc)
  · have hb : bl c ≤ bl n - 1 := by omega
    have hn0 : n ≠ 0 := by rintro rfl; have : bl 0 = 0 := rfl; omega
    have hc1 := bl_le.1 hb
    have hd : P2 (bl n - p) ∣ P2 (bl n - 1) := P2_dvd (by omega)
    have k1 := key _ hd
    have k2 := key _ (Int.dvd_neg.2 hd)
    have hpp := P2_pos (bl n - 1)
    rcases bl_ge hn0 with h4 | h4 <;> omega

theorem Rep_diff {p : Nat} {a b : Int} (ha : Rep p a) (hb : Rep p b) (h1 : (a - b).natAbs ≤ a.natAbs) (h2 : (a - b).natAbs ≤ b.natAbs) : Rep p (a - b) := by
  have m1 := bl_mono h1
  have m2 := bl_mono h2
  exact Int.dvd_sub (Int.dvd_trans (P2_dvd (by omega)) ha) (Int.dvd_trans (P2_dvd (by omega)) hb)

/-- What a sum loses is a number. -/
theorem err_rep1 {p : Nat} (hp : 1 ≤ p) {a b r : Int} (ha : Rep p a) (hb : Rep p b) (h : Rn p (a + b) r) (hab : b.natAbs ≤ a.natAbs) : Rep p (a + b - r) := by
  have hn := h.near hp ha
  have hm := bl_mono hab
  by_cases hk : bl (a + b) - p ≤ bl b - p
  · have := h.exact (Int.dvd_add (Int.dvd_trans (P2_dvd (show bl b - p ≤ bl a - p by omega)) ha) hb) hk
    rw [this, Int.sub_self]; exact Rep_zero p
  · have e1 := bl_mono (a := a + b - r) (b := b) (by omega)
    exact Rep_of (i := bl b - p) (Int.dvd_sub (Int.dvd_add (Int.dvd_trans (P2_dvd (by omega)) ha) hb) (Int.dvd_trans (P2_dvd (by omega)) h.2.1)) (by omega)
theorem err_rep {p : Nat} (hp : 1 ≤ p) {a b r : Int} (ha : Rep p a) (hb : Rep p b) (h : Rn p (a + b) r) : Rep p (a + b - r) := by
  rcases Nat.le_total b.natAbs a.natAbs with q | q
  · exact err_rep1 hp ha hb h q
  · rw [Int.add_comm] at h ⊢; exact err_rep1 hp hb ha h q

/-- The sum less the greater term is a number. -/
theorem fast_rep {p : Nat} (hp : 1 ≤ p) {a b s : Int} (ha : Rep p a) (hb : Rep p b) (h : Rn p (a + b) s) (hab : b.natAbs ≤ a.natAbs) : Rep p (s - a) := by
  have hn := h.near hp ha
  have hm := bl_mono hab
  have hb' : P2 (bl b - p) ∣ a := Int.dvd_trans (P2_dvd (by omega)) ha
  by_cases hk : bl (a + b) - p ≤ bl b - p
  · have := h.exact (Int.dvd_add hb' hb) hk
    rw [this, show a + b - a = b by omega]; exact hb
  · have hs1 : P2 (bl b - p + 1) ∣ s := Int.dvd_trans (P2_dvd (by omega)) h.2.1
    have hbb := bl_le.1 (Nat.le_refl (bl b))
    by_cases hj : bl b - p + 1 ≤ bl a - p
    · refine Rep_of (Int.dvd_sub hs1 (Int.dvd_trans (P2_dvd hj) ha)) (Nat.le_trans (m := bl b + 1) ?_ (by omega))
      rw [bl_le, P2_succ]; omega
    · have ha1 := (bl_le (n := a) (k := p + (bl b - p))).1 (by omega)
      have hb1 := (bl_le (n := b) (k := p + (bl b - p))).1 (by omega)
      have hk2 : bl (a + b) ≤ p + (bl b - p) + 1 := by rw [bl_le, P2_succ]; omega
      have hke : bl (a + b) - p = bl b - p + 1 := by omega
      obtain ⟨_, _, h2, h3⟩ := h
      rw [hke, P2_succ] at h2 h3
      have hd1 : P2 (bl b - p) ∣ P2 (p + (bl b - p)) := P2_dvd (by omega)
      have hd2 : P2 (bl b - p) ∣ b := hb
      have hpi := P2_pos (bl b - p)
      -- |b| is at most the top less one unit
      have t1 : b ≤ P2 (p + (bl b - p)) - P2 (bl b - p) := by
        rcases Int.lt_or_le (P2 (p + (bl b - p)) - P2 (bl b - p)) b with q | q
        · have := dvd_small (Int.dvd_sub hd1 hd2) (by omega) (by omega); omega
        · exact q
      have t2 : -b ≤ P2 (p + (bl b - p)) - P2 (bl b - p) := by
        rcases Int.lt_or_le (P2 (p + (bl b - p)) - P2 (bl b - p)) (-b) with q | q
        · have := dvd_small (Int.dvd_sub hd1 (Int.dvd_neg.2 hd2)) (by omega) (by omega); omega
        · exact q
      have hd3 : P2 (bl b - p) ∣ s - a := Int.dvd_sub (Int.dvd_trans (P2_dvd (by omega)) hs1) hb'
      have u1 : s - a ≤ P2 (p + (bl b - p)) := by omega
      have u2 : -(s - a) ≤ P2 (p + (bl b - p)) := by omega
      by_cases g1 : s - a = P2 (p + (bl b - p))
      · refine Rep_of (i := bl b - p + 1) (by rw [g1]; exact P2_dvd (by omega)) ?_
        rw [bl_le, show p + (bl b - p + 1) = p + (bl b - p) + 1 by omega, P2_succ]; omega
      · by_cases g2 : -(s - a) = P2 (p + (bl b - p))
        · refine Rep_of (i := bl b - p + 1) (by rw [show s - a = -P2 (p + (bl b - p)) by omega]; exact Int.dvd_neg.2 (P2_dvd (by omega))) ?_
          rw [bl_le, show p + (bl b - p + 1) = p + (bl b - p) + 1 by omega, P2_succ]; omega
        · exact Rep_of hd3 (by rw [bl_le]; omega)

/-- KNUTH. -/
theorem two_sum {p : Nat} (hp : 5 ≤ p) {a b s v q r t u : Int} (ha : Rep p a) (hb : Rep p b) (hs : Rn p (a + b) s) (hv : Rn p (s - b) v) (hq : Rn p (s - v) q) (hr : Rn p (a - v) r) (ht : Rn p (b - q) t) (hu : Rn p (r + t) u) : s + u = a + b := by
  have p1 : 1 ≤ p := by omega
  have fin : Rep p (s - v) → Rep p (a - v) → s + u = a + b := fun h1 h2 => by
    have e1 := hq.rep h1
    have e2 := hr.rep h2
    have h3 : Rep p (v - (s - b)) := by
      have := err_rep p1 hs.1 hb.neg (r := v) (by rwa [← Int.sub_eq_add_neg])
      rw [← Int.sub_eq_add_neg] at this; exact this.sub_comm
    have e3 := ht.rep (by rw [e1, show b - (s - v) = v - (s - b) by omega]; exact h3)
    have h4 := err_rep p1 ha hb hs
    have e4 := hu.rep (by rw [e2, e3, e1, show a - v + (b - (s - v)) = a + b - s by omega]; exact h4)
    omega
  by_cases hab : a.natAbs ≤ b.natAbs
  · have h1 := fast_rep p1 hb ha (by rwa [Int.add_comm]) hab
    have e1 := hv.rep h1
    refine fin (by rw [e1, show s - (s - b) = b by omega]; exact hb) ?_
    rw [e1, show a - (s - b) = a + b - s by omega]; exact err_rep p1 ha hb hs
  · by_cases hsb : b.natAbs ≤ s.natAbs
    · refine fin ?_ ?_
      · have := fast_rep p1 hs.1 hb.neg (s := v) (by rwa [← Int.sub_eq_add_neg]) (by omega)
        exact this.sub_comm
      · -- near a
        have ha0 : a ≠ 0 := by intro h; omega
        have hA := bl_ge ha0
        have hA1 := bl_le.1 (Nat.le_refl (bl a))
        have n1 := hs.near p1 ha
        have b1 : bl (a + b) ≤ bl a + 1 := by rw [bl_le, P2_succ]; omega
        have b2 : bl (s - b) ≤ bl a + 1 := by rw [bl_le, P2_succ]; omega
        have big : ∀ k, k ≤ bl a + 1 - p → k = 0 ∨ 8 * P2 k ≤ 2 * P2 (bl a - 1) := fun k hk => by
          by_cases h0 : k = 0
          · exact Or.inl h0
          · right
            have := P2_le (show k + 2 ≤ bl a - 1 by omega)
            rw [P2_succ, P2_succ] at this; omega
        have c1 := big (bl (a + b) - p) (by omega)
        have c2 := big (bl (s - b) - p) (by omega)
        obtain ⟨_, _, s2, s3⟩ := hs
        obtain ⟨hvr, _, v2, v3⟩ := hv
        have z : P2 0 = 1 := rfl
        have d1 : 4 * (s - (a + b)) ≤ a.natAbs ∧ 4 * ((a + b) - s) ≤ a.natAbs := by
          rcases c1 with h | h
          · rw [h, z] at s2 s3; omega
          · omega
        have d2 : 4 * (v - (s - b)) ≤ a.natAbs ∧ 4 * ((s - b) - v) ≤ a.natAbs := by
          rcases c2 with h | h
          · rw [h, z] at v2 v3; omega
          · omega
        exact Rep_diff ha hvr (by omega) (by omega)
    · -- the sum is exact
      have h1 : (a + b).natAbs ≤ b.natAbs := by
        have n1 := hs.near p1 hb
        have n2 := hs.near p1 hb.neg
        omega
      have h2 : Rep p (a + b) := by
        have := Rep_diff ha hb.neg (by omega) (by omega)
        rwa [Int.sub_neg] at this
      have e0 := hs.rep h2
      have e1 := hv.rep (by rw [e0, show a + b - b = a by omega]; exact ha)
      refine fin (by rw [e1, show s - (s - b) = b by omega]; exact hb) ?_
      rw [e1, e0, show a - (a + b - b) = 0 by omega]; exact Rep_zero p

/-- What a product loses. -/
theorem prod_rep {p j : Nat} {n r : Int} (hn : P2 j ∣ n) (hb : bl n ≤ 2 * p + j) (h : Rn p n r) : Rep p (n - r) := by
  by_cases hk : bl n - p ≤ j
  · have := h.exact hn hk
    rw [this, Int.sub_self]; exact Rep_zero p
  · obtain ⟨_, h1, h2, h3⟩ := h
    have hp := P2_pos (bl n - p)
    exact Rep_of (i := j) (Int.dvd_sub hn (Int.dvd_trans (P2_dvd (by omega)) h1)) (Nat.le_trans (m := bl n - p) (by rw [bl_le]; omega) (by omega))
end Go.Cv

/-
  Rounding to the nearest even one, seen in whole numbers.
-/
namespace Go.Cv

theorem iv_cases (d : Dy) (L : Int) : (iv d L = ((d.m * 2 ^ (d.e - L).toNat : Nat) : Int) ∧ d.n = false) ∨ (iv d L = -((d.m * 2 ^ (d.e - L).toNat : Nat) : Int) ∧ d.n = true) := by
  unfold iv; cases d.n <;> simp
theorem bl_iv (d : Dy) (L : Int) : bl (iv d L) = blen (d.m * 2 ^ (d.e - L).toNat) := by
  unfold bl
  rcases iv_cases d L with ⟨h, _⟩ | ⟨h, _⟩ <;> rw [h] <;> congr 1 <;> omega
theorem dvd_iv {d : Dy} {L : Int} {j : Nat} (h : 2 ^ j ∣ d.m * 2 ^ (d.e - L).toNat) : P2 j ∣ iv d L := by
  have h1 : P2 j ∣ ((d.m * 2 ^ (d.e - L).toNat : Nat) : Int) := Int.natCast_dvd_natCast.2 h
  rcases iv_cases d L with ⟨e, _⟩ | ⟨e, _⟩ <;> rw [e]
  · exact h1
  · exact Int.dvd_neg.2 h1

theorem rn_core (F : Fm) {d : Dy} (h0 : d.m ≠ 0) (hl : F.low ≤ d.e) (hv : (rndW F 1 d).2 ≠ 20) :
    (rndW F 1 d).1 < 2 * F.sg ∧ F.fin (rndW F 1 d).1 ∧ Rn (F.fr + 1) (iv d F.low) (iv (F.val (rndW F 1 d).1) F.low) ∧ LoE (F.val (rndW F 1 d).1) F.low := by
  have hF := fm_facts F
  obtain ⟨b1, b2, _, _⟩ := rnd_bd F (md := 1) h0
  obtain ⟨u, hu⟩ : ∃ u, u = F.eOf (d.e + blen d.m) := ⟨_, rfl⟩
  have hue : u = max (d.e + blen d.m - F.fr - 1) F.low := hu
  have hlo : F.low ≤ u := by omega
  unfold rndW at hv ⊢
  simp only [if_neg h0] at hv ⊢
  rw [← hu] at b1 b2 hv ⊢
  have hbl : blen (d.m * 2 ^ (d.e - F.low).toNat) = blen d.m + (d.e - F.low).toNat := blen_mul h0 _
  have hk : (u - F.low).toNat = blen (d.m * 2 ^ (d.e - F.low).toNat) - (F.fr + 1) := by omega
  obtain ⟨A, hA⟩ : ∃ A, A = d.m * 2 ^ (d.e - F.low).toNat := ⟨_, rfl⟩
  have hnear : 2 * ((((rnd 1 d.n d.m d.e u).1 * 2 ^ (u - F.low).toNat : Nat) : Int) - (A : Int)) ≤ P2 (u - F.low).toNat ∧ 2 * ((A : Int) - (((rnd 1 d.n d.m d.e u).1 * 2 ^ (u - F.low).toNat : Nat) : Int)) ≤ P2 (u - F.low).toNat := by
    by_cases q : u = F.low
    · have : rnd 1 d.n d.m d.e u = (A, true) := by unfold rnd; rw [if_pos (by omega), hA, q]
      rw [this, q, Int.sub_self]
      have : P2 (0 : Int).toNat = 1 := rfl
      rw [this]
      simp only [Int.toNat_zero, Nat.pow_zero, Nat.mul_one]; omega
    · obtain ⟨b, e, R⟩ := rnd_Rd 1 d.n d.m (E := d.e) (u := u) (L := F.low) hl (by omega)
      rw [← hA] at e R
      rw [e]
      obtain ⟨n1, n2⟩ := R.near (Or.inl rfl)
      unfold P2
      generalize 2 ^ (u - F.low).toNat = U at *
      generalize A / U = W at *
      have q2 : (2 * W + 1) * U = 2 * (W * U) + U := by rw [Nat.add_mul, Nat.one_mul, Nat.mul_assoc]
      rw [q2] at n1 n2
      have lo := R.lo
      have hi := R.hi
      rw [Nat.add_mul, Nat.one_mul] at hi
      simp only [Nat.add_mul]
      generalize W * U = V at *
      cases b
      · have := n2 rfl; simp only [Bool.toNat_false, Nat.zero_mul]; omega
      · have := n1 rfl; simp only [Bool.toNat_true, Nat.one_mul]; omega
  generalize (rnd 1 d.n d.m d.e u).1 = K at *
  unfold wordOf at hv ⊢
  have hbig := enc_big F (n := K) (u := u) b1 hlo b2
  by_cases ov : F.wide < blen K + u
  · rw [if_pos ov] at hv; exact absurd rfl hv
  · rw [if_neg ov]
    have hi := fm_i0 F
    have hs : F.enc K u < F.i0 := by
      rcases Nat.lt_or_ge (F.enc K u) F.i0 with q | q
      · exact q
      · exact absurd (hbig.2 q) ov
    obtain ⟨v1, v2, _⟩ := iv_val (F := F) d.n hs
    rw [magN_enc F b1 hlo b2] at v1
    refine ⟨by unfold Fm.sgn; split <;> omega, fin_size d.n hs, ?_, v2⟩
    have hd : P2 (u - F.low).toNat ∣ ((K * 2 ^ (u - F.low).toNat : Nat) : Int) := Int.natCast_dvd_natCast.2 ⟨K, Nat.mul_comm _ _⟩
    have hrep : Rep (F.fr + 1) ((K * 2 ^ (u - F.low).toNat : Nat) : Int) := by
      rcases Nat.lt_or_ge K (2 ^ (F.fr + 1)) with q | q
      · refine Rep_of hd ?_
        rw [bl_le]
        unfold P2
        rw [Nat.pow_add]
        have := Nat.mul_lt_mul_of_pos_right q (Nat.two_pow_pos (u - F.low).toNat)
        generalize K * 2 ^ (u - F.low).toNat = X at *
        omega
      · rw [show K = 2 ^ (F.fr + 1) by omega, ← Nat.pow_add]
        refine Rep_of (i := (u - F.low).toNat + 1) (P2_dvd (by omega)) ?_
        rw [bl_le, show F.fr + 1 + ((u - F.low).toNat + 1) = (F.fr + 1 + (u - F.low).toNat) + 1 by omega, P2_succ]
        have := P2_pos (F.fr + 1 + (u - F.low).toNat)
        unfold P2 at *
        omega
    simp only [] at v1 ⊢
    rw [v1]
    unfold Rn
    rw [bl_iv, ← hk]
    rcases iv_cases d F.low with ⟨e, en⟩ | ⟨e, en⟩
    · rw [e, en, ← hA]; simp only [Bool.false_eq_true, if_false, Int.one_mul]
      exact ⟨hrep, hd, hnear.1, hnear.2⟩
    · rw [e, en, ← hA]; simp only [if_true]
      rw [Int.neg_mul, Int.one_mul]
      exact ⟨hrep.neg, Int.dvd_neg.2 hd, by omega, by omega⟩

/-- A word's value, in units of the least exponent. -/
def Fm.X (F : Fm) (w : Nat) : Int := iv (F.vl w) F.low
theorem LoE_vl {F : Fm} {w : Nat} (hf : F.fin w) : LoE (F.vl w) F.low := by
  by_cases h : (F.vl w).m = 0
  · exact Or.inl h
  · right; rw [vl_val hf] at h ⊢; exact (fits_val F hf h).2.2.1
theorem X_rep {F : Fm} {w : Nat} (hf : F.fin w) : Rep (F.fr + 1) (F.X w) := by
  unfold Fm.X
  by_cases h : (F.vl w).m = 0
  · rw [iv_zero h]; exact Rep_zero _
  · have h' := h
    rw [vl_val hf] at h
    obtain ⟨_, h1, h2, h3⟩ := fits_val F hf h
    rw [← vl_val hf] at h1 h2 h3
    refine Rep_of (i := ((F.vl w).e - F.low).toNat) (dvd_iv ⟨(F.vl w).m, Nat.mul_comm _ _⟩) ?_
    rw [bl_iv, blen_mul h']; omega
theorem fits_of_rep (F : Fm) {x : Dy} (hz : Nz x) (hl : LoE x F.low) (h0 : x.m ≠ 0) (hr : Rep (F.fr + 1) (iv x F.low)) (ht : (bl (iv x F.low) : Int) + F.low ≤ F.wide) : F.fits x := by
  have hle := hl.resolve_left h0
  have ho := hz.2 h0
  unfold Rep at hr
  rw [bl_iv, blen_mul h0] at hr ht
  have hn : 2 ^ (blen x.m + (x.e - F.low).toNat - (F.fr + 1)) ∣ x.m * 2 ^ (x.e - F.low).toNat := by
    apply Int.natCast_dvd_natCast.1
    rcases iv_cases x F.low with ⟨e, _⟩ | ⟨e, _⟩ <;> rw [e] at hr
    · exact hr
    · exact Int.dvd_neg.1 hr
  have htz := tz_unique (k := (x.e - F.low).toNat) ho
  obtain ⟨q, hq⟩ := hn
  have hq0 : q ≠ 0 := by
    rintro rfl
    have := Nat.mul_pos (Nat.pos_of_ne_zero h0) (Nat.two_pow_pos (x.e - F.low).toNat)
    omega
  rw [hq, Nat.mul_comm, tz_mul hq0] at htz
  exact ⟨h0, by omega, hle, by omega⟩
theorem rn_zero (p : Nat) : Rn p 0 0 := ⟨Rep_zero p, Int.dvd_zero _, by have := P2_pos (bl 0 - p); omega, by have := P2_pos (bl 0 - p); omega⟩
theorem sum_rn (F : Fm) {d : Dy} (hl : LoE d F.low) (hv : (sumW F 1 d).2 ≠ 20) : (sumW F 1 d).1 < 2 * F.sg ∧ F.fin (sumW F 1 d).1 ∧ Rn (F.fr + 1) (iv d F.low) (F.X (sumW F 1 d).1) := by
  have hi := fm_i0 F
  unfold sumW at hv ⊢
  by_cases h0 : d.m = 0
  · rw [if_pos h0, iv_zero h0]
    have e : F.sgn (decide ((1 : Int) = 5)) = 0 := rfl
    have hf : F.fin 0 := by have := fin_size (F := F) (s := 0) false hi.2.1; exact this
    refine ⟨by simp only [e]; omega, by simp only [e]; exact hf, ?_⟩
    simp only [e]
    unfold Fm.X
    rw [vl_val hf]
    have := val_zero F false
    rw [show 0 + F.sgn false = 0 from rfl] at this
    rw [this, iv_zero rfl]
    exact rn_zero _
  · rw [if_neg h0] at hv ⊢
    obtain ⟨h1, h2, h3, h4⟩ := rn_core F h0 (hl.resolve_left h0) hv
    refine ⟨h1, h2, ?_⟩
    unfold Fm.X; rw [vl_val h2]; exact h3
theorem X_zero {F : Fm} {w : Nat} (hw : w < 2 * F.sg) (h : F.cls w = 1) : F.X w = 0 := by
  have hf : F.fin w := fin_iff.2 (Or.inl h)
  unfold Fm.X
  rw [vl_val hf, (cls_zero_w hw h).2, iv_zero rfl]
theorem sgn_fin (F : Fm) (n : Bool) : F.sgn n < 2 * F.sg ∧ F.fin (F.sgn n) ∧ F.vl (F.sgn n) = ⟨false, 0, 0⟩ := by
  have hi := fm_i0 F
  have h := fin_size (F := F) (s := 0) n hi.2.1
  have h2 := val_zero F n
  rw [Nat.zero_add] at h h2
  exact ⟨by unfold Fm.sgn; split <;> omega, h, by rw [vl_val h, h2]⟩
theorem X_sgn (F : Fm) (n : Bool) : F.X (F.sgn n) = 0 := by unfold Fm.X; rw [(sgn_fin F n).2.2, iv_zero rfl]

theorem addP_fin (F : Fm) (md : Int) {c c' : Int} {n n' : Bool} {d d' : Dy} (h1 : c = 1 ∨ c = 2 ∨ c = 3) (h2 : c' = 1 ∨ c' = 2 ∨ c' = 3) :
    addP F md c n d c' n' d' = if c = 1 ∧ c' = 1 ∧ n = n' then (F.sgn n, 0) else sumW F md (addD d d') := by
  unfold addP
  rw [if_neg (by omega), if_neg (by omega), if_neg (by omega), if_neg (by omega)]
theorem addW_rn (F : Fm) {a b : Nat} (ha : a < 2 * F.sg) (hb : b < 2 * F.sg) (fa : F.fin a) (fb : F.fin b) (hv : (addW F 1 a b).2 ≠ 20) :
    (addW F 1 a b).1 < 2 * F.sg ∧ F.fin (addW F 1 a b).1 ∧ Rn (F.fr + 1) (F.X a + F.X b) (F.X (addW F 1 a b).1) := by
  unfold addW at hv ⊢
  rw [addP_fin F 1 (fin_iff.1 fa) (fin_iff.1 fb)] at hv ⊢
  by_cases q : F.cls a = 1 ∧ F.cls b = 1 ∧ F.ng a = F.ng b
  · rw [if_pos q]
    refine ⟨(sgn_fin F _).1, (sgn_fin F _).2.1, ?_⟩
    rw [X_zero ha q.1, X_zero hb q.2.1, X_sgn]; exact rn_zero _
  · rw [if_neg q] at hv ⊢
    obtain ⟨i1, i2⟩ := iv_add (LoE_vl fa) (LoE_vl fb)
    have := sum_rn F i2 hv
    rw [i1] at this; exact this
theorem subW_rn (F : Fm) {a b : Nat} (ha : a < 2 * F.sg) (hb : b < 2 * F.sg) (fa : F.fin a) (fb : F.fin b) (hv : (subW F 1 a b).2 ≠ 20) :
    (subW F 1 a b).1 < 2 * F.sg ∧ F.fin (subW F 1 a b).1 ∧ Rn (F.fr + 1) (F.X a - F.X b) (F.X (subW F 1 a b).1) := by
  unfold subW at hv ⊢
  rw [addP_fin F 1 (fin_iff.1 fa) (fin_iff.1 fb)] at hv ⊢
  by_cases q : F.cls a = 1 ∧ F.cls b = 1 ∧ F.ng a = !F.ng b
  · rw [if_pos q]
    refine ⟨(sgn_fin F _).1, (sgn_fin F _).2.1, ?_⟩
    rw [X_zero ha q.1, X_zero hb q.2.1, X_sgn]; exact rn_zero _
  · rw [if_neg q] at hv ⊢
    obtain ⟨i1, i2⟩ := iv_sub (LoE_vl fa) (LoE_vl fb)
    have := sum_rn F i2 hv
    rw [i1] at this; exact this

/-- KNUTH, of words. -/
theorem two_sum_w (F : Fm) {a b : Nat} (ha : a < 2 * F.sg) (hb : b < 2 * F.sg) (fa : F.fin a) (fb : F.fin b) {s v q r t u : Nat}
    (es : (addW F 1 a b).1 = s) (ev : (subW F 1 s b).1 = v) (eq : (subW F 1 s v).1 = q) (er : (subW F 1 a v).1 = r) (et : (subW F 1 b q).1 = t) (eu : (addW F 1 r t).1 = u)
    (hs : (addW F 1 a b).2 ≠ 20) (hv : (subW F 1 s b).2 ≠ 20) (hq : (subW F 1 s v).2 ≠ 20) (hr : (subW F 1 a v).2 ≠ 20) (ht : (subW F 1 b q).2 ≠ 20) (hu : (addW F 1 r t).2 ≠ 20) :
    addD (F.vl s) (F.vl u) = addD (F.vl a) (F.vl b) := by
  have hF := fm_facts F
  obtain ⟨s1, s2, s3⟩ := addW_rn F ha hb fa fb hs
  rw [es] at s1 s2 s3
  obtain ⟨v1, v2, v3⟩ := subW_rn F s1 hb s2 fb hv
  rw [ev] at v1 v2 v3
  obtain ⟨q1, q2, q3⟩ := subW_rn F s1 v1 s2 v2 hq
  rw [eq] at q1 q2 q3
  obtain ⟨r1, r2, r3⟩ := subW_rn F ha v1 fa v2 hr
  rw [er] at r1 r2 r3
  obtain ⟨t1, t2, t3⟩ := subW_rn F hb q1 fb q2 ht
  rw [et] at t1 t2 t3
  obtain ⟨u1, u2, u3⟩ := addW_rn F r1 t1 r2 t2 hu
  rw [eu] at u1 u2 u3
  have h := two_sum (by omega) (X_rep fa) (X_rep fb) s3 v3 q3 r3 t3 u3
  obtain ⟨i1, i2⟩ := iv_add (LoE_vl s2) (LoE_vl u2)
  obtain ⟨j1, j2⟩ := iv_add (LoE_vl fa) (LoE_vl fb)
  exact nz_eq (L := F.low) (Nz_add (Nz_vl F s) (Nz_vl F u)) (Nz_add (Nz_vl F a) (Nz_vl F b)) i2 j2 (by rw [i1, j1]; exact h)
end Go.Cv

/-
  What a product loses is a word.
-/
namespace Go.Cv

theorem cls_val1 {F : Fm} {w : Nat} (hw : w < 2 * F.sg) (hf : F.fin w) : F.cls w = 1 ↔ (F.vl w).m = 0 := by
  rw [vl_val hf]
  constructor
  · intro h; rw [(cls_zero_w hw h).2]
  · intro h
    have h1 := fun q => val_cls hw q hf
    exact Decidable.byContradiction fun q => h1 q h
theorem mulP_fin (F : Fm) (md : Int) {c c' : Int} {n n' : Bool} {d d' : Dy} (h1 : c = 1 ∨ c = 2 ∨ c = 3) (h2 : c' = 1 ∨ c' = 2 ∨ c' = 3) :
    mulP F md c n d c' n' d' = if c = 1 ∨ c' = 1 then (F.sgn (n != n'), 0) else sumW F md (mulD d d') := by
  unfold mulP
  rw [if_neg (by omega), if_neg (by omega), if_neg (by omega)]
theorem mulD_m {a b : Dy} (ha : Nz a) (hb : Nz b) (h1 : a.m ≠ 0) (h2 : b.m ≠ 0) : mulD a b = ⟨a.n != b.n, a.m * b.m, a.e + b.e⟩ := by
  unfold mulD; exact mkD_odd (odd_mul (ha.2 h1) (hb.2 h2))

/-- The top of a number that is rounded to a word. -/
theorem rn_top (F : Fm) {d : Dy} (h0 : d.m ≠ 0) (hv : (rndW F 1 d).2 ≠ 20) : F.eOf (d.e + blen d.m) ≤ F.wide := by
  have hF := fm_facts F
  obtain ⟨_, b2, _, _⟩ := rnd_bd F (md := 1) h0
  unfold rndW at hv
  simp only [if_neg h0] at hv
  unfold wordOf at hv
  by_cases ov : F.wide < blen (rnd 1 d.n d.m d.e (F.eOf (d.e + blen d.m))).1 + F.eOf (d.e + blen d.m)
  · rw [if_pos ov] at hv; exact absurd rfl hv
  · omega

theorem two_prod (F : Fm) {a b : Nat} (ha : a < 2 * F.sg) (hb : b < 2 * F.sg) (fa : F.fin a) (fb : F.fin b) (hv : (mulW2 F 1 a b).2 ≠ 20) (hl : F.low ≤ (mulD (F.vl a) (F.vl b)).e) :
    F.fin (mulW2 F 1 a b).1 ∧ (mulW2 F 1 a b).1 < 2 * F.sg ∧ ∃ l : Nat, fmaW F 1 a b (F.flip (mulW2 F 1 a b).1) = (l, 0) ∧ l < 2 * F.sg ∧ F.fin l ∧ addD (F.vl (mulW2 F 1 a b).1) (F.vl l) = mulD (F.vl a) (F.vl b) := by
  have ca := fin_iff.1 fa
  have cb := fin_iff.1 fb
  have hF := fm_facts F
  have hfma : ∀ w, w < 2 * F.sg → F.fin w → fmaW F 1 a b (F.flip w) = addP F 1 (prC (F.cls a) (F.cls b)) (F.ng a != F.ng b) (if prC (F.cls a) (F.cls b) = 3 then mulD (F.vl a) (F.vl b) else ⟨false, 0, 0⟩) (F.cls w) (!F.ng w) (negD (F.vl w)) := fun w hw hf => by
    obtain ⟨_, q2, q3, q4⟩ := flip_facts hw
    have cw := fin_iff.1 hf
    unfold fmaW
    rw [q2, q3, q4, if_neg (by omega), if_neg (by omega)]
  by_cases h1 : F.cls a = 1 ∨ F.cls b = 1
  · have hm : mulW2 F 1 a b = (F.sgn (F.ng a != F.ng b), 0) := by unfold mulW2; rw [mulP_fin F 1 ca cb, if_pos h1]
    have hd : mulD (F.vl a) (F.vl b) = ⟨false, 0, 0⟩ := by
      apply mulD_z0
      rcases h1 with h | h
      · left; exact (cls_val1 ha fa).1 h
      · right; exact (cls_val1 hb fb).1 h
    obtain ⟨g1, g2, g3⟩ := sgn_fin F (F.ng a != F.ng b)
    rw [hm]
    have hp : prC (F.cls a) (F.cls b) = 1 := by unfold prC; rw [if_neg (by omega), if_pos h1]
    have hc1 : F.cls (F.sgn (F.ng a != F.ng b)) = 1 := by rw [cls_val1 g1 g2, g3]
    have hng : F.ng (F.sgn (F.ng a != F.ng b)) = (F.ng a != F.ng b) := by
      have := (sgn_mod (F := F) (s := 0) (F.ng a != F.ng b) (by have := fm_i0 F; omega)).2
      rwa [Nat.zero_add] at this
    refine ⟨g2, g1, F.sgn false, ?_, (sgn_fin F false).1, (sgn_fin F false).2.1, ?_⟩
    · rw [hfma _ g1 g2, hp, hc1, hng, g3, if_neg (by decide), addP_fin F 1 (Or.inl rfl) (Or.inl rfl), if_neg (by cases (F.ng a != F.ng b) <;> simp)]
      rfl
    · simp only [g3, (sgn_fin F false).2.2, hd]; rfl
  · have na : (F.vl a).m ≠ 0 := fun h => h1 (Or.inl ((cls_val1 ha fa).2 h))
    have nb : (F.vl b).m ≠ 0 := fun h => h1 (Or.inr ((cls_val1 hb fb).2 h))
    have hm : mulW2 F 1 a b = sumW F 1 (mulD (F.vl a) (F.vl b)) := by unfold mulW2; rw [mulP_fin F 1 ca cb, if_neg h1]
    have hd := mulD_m (Nz_vl F a) (Nz_vl F b) na nb
    have hp : prC (F.cls a) (F.cls b) = 3 := by unfold prC; rw [if_neg (by omega), if_neg h1]
    rw [hm] at hv ⊢
    have ld : LoE (mulD (F.vl a) (F.vl b)) F.low := Or.inr hl
    obtain ⟨p1, p2, p3⟩ := sum_rn F ld hv
    have nd : (mulD (F.vl a) (F.vl b)).m ≠ 0 := by
      rw [hd]; have := Nat.mul_pos (Nat.pos_of_ne_zero na) (Nat.pos_of_ne_zero nb); simp only; omega
    have hbm : blen (mulD (F.vl a) (F.vl b)).m ≤ 2 * (F.fr + 1) := by
      rw [hd]
      have x1 := fits_val F fa (by rw [← vl_val fa]; exact na)
      have x2 := fits_val F fb (by rw [← vl_val fb]; exact nb)
      rw [← vl_val fa] at x1
      rw [← vl_val fb] at x2
      have := blen_mulT x1.2.1 x2.2.1
      simp only; omega
    have htop := rn_top F nd (by unfold sumW at hv; rwa [if_neg nd] at hv)
    have nz := Nz_mul (F.vl a) (F.vl b)
    generalize hD : mulD (F.vl a) (F.vl b) = d at *
    generalize hP : (sumW F 1 d).1 = p at *
    have hbl : bl (iv d F.low) = blen d.m + (d.e - F.low).toNat := by rw [bl_iv, blen_mul nd]
    have hr := prod_rep (j := (d.e - F.low).toNat) (dvd_iv ⟨d.m, Nat.mul_comm _ _⟩) (by omega) p3
    obtain ⟨i1, i2⟩ := iv_sub ld (LoE_vl p2)
    have hr' : Rep (F.fr + 1) (iv (subD d (F.vl p)) F.low) := by rw [i1]; exact hr
    have hnz := Nz_sub nz (Nz_vl F p)
    obtain ⟨_, _, r2, r3⟩ := p3
    have ht : (bl (iv (subD d (F.vl p)) F.low) : Int) + F.low ≤ F.wide := by
      rw [i1]
      have hE : F.eOf (d.e + blen d.m) = max (d.e + blen d.m - F.fr - 1) F.low := rfl
      have : bl (iv d F.low - iv (F.vl p) F.low) ≤ bl (iv d F.low) - (F.fr + 1) := by
        rw [bl_le]
        have hpp := P2_pos (bl (iv d F.low) - (F.fr + 1))
        unfold Fm.X at r2 r3
        omega
      omega
    obtain ⟨l, l1, l2, l3, l4⟩ := sum_fit F (md := 1) hnz (fun q => fits_of_rep F hnz i2 q hr' ht)
    refine ⟨p2, p1, l, ?_, l2, l3, ?_⟩
    · rw [hfma _ p1 p2, hp, if_pos rfl, addP_fin F 1 (Or.inr (Or.inr rfl)) (fin_iff.1 p2), if_neg (fun h => by cases h.1)]
      exact l1
    · rw [vl_val l3, l4]
      obtain ⟨k1, k2⟩ := iv_add (LoE_vl p2) i2
      exact nz_eq (L := F.low) (Nz_add (Nz_vl F p) hnz) nz k2 ld (by rw [k1, i1]; omega)
end Go.Cv

/-
  What is left of a division is a word.
-/
namespace Go.Cv

theorem iv_mul {a b : Dy} {K L : Int} (ha : LoE a K) (hb : LoE b L) : iv (mulD a b) (K + L) = iv a K * iv b L ∧ LoE (mulD a b) (K + L) := by
  by_cases h1 : a.m = 0
  · have : mulD a b = ⟨false, 0, 0⟩ := mulD_z0 (Or.inl h1)
    rw [this, iv_zero rfl, iv_zero h1, Int.zero_mul]; exact ⟨rfl, Or.inl rfl⟩
  · by_cases h2 : b.m = 0
    · have : mulD a b = ⟨false, 0, 0⟩ := mulD_z0 (Or.inr h2)
      rw [this, iv_zero rfl, iv_zero h2, Int.mul_zero]; exact ⟨rfl, Or.inl rfl⟩
    · have la := ha.resolve_left h1
      have lb := hb.resolve_left h2
      refine ⟨?_, LoE_mk (by omega)⟩
      unfold mulD
      rw [iv_mk (by omega), show (a.e + b.e - (K + L)).toNat = (a.e - K).toNat + (b.e - L).toNat by omega, Nat.pow_add]
      unfold iv
      have e : a.m * b.m * (2 ^ (a.e - K).toNat * 2 ^ (b.e - L).toNat) = (a.m * 2 ^ (a.e - K).toNat) * (b.m * 2 ^ (b.e - L).toNat) := by
        simp only [Nat.mul_assoc, Nat.mul_left_comm, Nat.mul_comm]
      rw [e, Int.natCast_mul]
      generalize ((a.m * 2 ^ (a.e - K).toNat : Nat) : Int) = x
      generalize ((b.m * 2 ^ (b.e - L).toNat : Nat) : Int) = y
      cases a.n <;> cases b.n <;> simp [Int.neg_mul, Int.mul_neg]

theorem rep_blen {p : Nat} {x : Dy} {L : Int} (hz : Nz x) (hl : LoE x L) (h0 : x.m ≠ 0) (hr : Rep p (iv x L)) : blen x.m ≤ p ∧ x.e + blen x.m = L + bl (iv x L) := by
  have hle := hl.resolve_left h0
  have ho := hz.2 h0
  have hbl : bl (iv x L) = blen x.m + (x.e - L).toNat := by rw [bl_iv, blen_mul h0]
  unfold Rep at hr
  rw [hbl] at hr ⊢
  have hn : 2 ^ (blen x.m + (x.e - L).toNat - p) ∣ x.m * 2 ^ (x.e - L).toNat := by
    apply Int.natCast_dvd_natCast.1
    rcases iv_cases x L with ⟨e, _⟩ | ⟨e, _⟩ <;> rw [e] at hr
    · exact hr
    · exact Int.dvd_neg.1 hr
  have htz := tz_unique (k := (x.e - L).toNat) ho
  obtain ⟨q, hq⟩ := hn
  have hq0 : q ≠ 0 := by
    rintro rfl
    have := Nat.mul_pos (Nat.pos_of_ne_zero h0) (Nat.two_pow_pos (x.e - L).toNat)
    omega
  rw [hq, Nat.mul_comm, tz_mul hq0] at htz
  omega

theorem mulD_neg (a b : Dy) : mulD a (negD b) = negD (mulD a b) := by
  by_cases h1 : a.m = 0
  · rw [mulD_z0 (Or.inl h1), mulD_z0 (Or.inl h1)]; rfl
  · by_cases h2 : b.m = 0
    · rw [mulD_z0 (Or.inr h2), mulD_z0 (Or.inr (by unfold negD; rw [if_pos h2]; exact h2))]; rfl
    · have h3 : a.m * b.m ≠ 0 := by have := Nat.mul_pos (Nat.pos_of_ne_zero h1) (Nat.pos_of_ne_zero h2); omega
      have e1 : negD b = ⟨!b.n, b.m, b.e⟩ := by unfold negD; rw [if_neg h2]
      unfold mulD
      rw [e1]
      simp only
      have e2 := mkD_m0 (n := a.n != b.n) h3 (a.e + b.e)
      unfold negD
      rw [if_neg e2, mkD_pos h3, mkD_pos h3]
      cases a.n <;> cases b.n <;> rfl

/-- The quotient's word: so many units, and how far off. -/
theorem quo_core (F : Fm) {md : Int} {a b : Dy} (h0 : a.m ≠ 0) (h1 : b.m ≠ 0) (hf : (quoW F md a b).2 = 0 ∨ (quoW F md a b).2 = 16) :
    ∃ (K N kk : Nat) (u : Int), F.fin (quoW F md a b).1 ∧ (quoW F md a b).1 < 2 * F.sg ∧ F.val (quoW F md a b).1 = mkD (a.n != b.n) K u ∧ u + b.e = a.e - N + kk ∧ ((quoW F md a b).2 = 16 → u ≤ (a.e + blen a.m) - (b.e + blen b.m) + 1 - F.fr) ∧
      (a.m * 2 ^ N ≤ K * b.m * 2 ^ kk + b.m * 2 ^ kk) ∧ K * b.m * 2 ^ kk ≤ a.m * 2 ^ N + b.m * 2 ^ kk ∧ ((quoW F md a b).2 = 0 → a.m * 2 ^ N = K * b.m * 2 ^ kk) := by
  have hF := fm_facts F
  have hi := fm_i0 F
  have hqb := quo_blen (k := 64) h0 h1
  unfold quoW at hf ⊢
  obtain ⟨N, hN⟩ : ∃ N, N = quoN 64 a.m b.m := ⟨_, rfl⟩
  rw [← hN] at hf hqb ⊢
  have hdm := Nat.div_add_mod (a.m * 2 ^ N) b.m
  have hml := Nat.mod_lt (a.m * 2 ^ N) (Nat.pos_of_ne_zero h1)
  have hbA : blen (a.m * 2 ^ N) = blen a.m + N := blen_mul h0 N
  obtain ⟨A, hA⟩ : ∃ A, A = a.m * 2 ^ N := ⟨_, rfl⟩
  rw [← hA] at hdm hml hbA hqb hf ⊢
  obtain ⟨Q, hQ⟩ : ∃ Q, Q = A / b.m := ⟨_, rfl⟩
  rw [← hQ] at hdm hqb hf ⊢
  have hQb : blen Q + blen b.m ≤ blen A + 1 := by
    have q0 : Q ≠ 0 := by rintro rfl; rw [blen_zero] at hqb; omega
    have e1 := pow_blen_le q0
    have e2 := pow_blen_le h1
    have e3 := Nat.mul_le_mul e2 e1
    rw [← Nat.pow_add] at e3
    have e4 := lt_pow_blen A
    have e5 : blen b.m - 1 + (blen Q - 1) < blen A := by
      refine (Nat.pow_lt_pow_iff_right (a := 2) (by decide)).1 (Nat.lt_of_le_of_lt e3 (Nat.lt_of_le_of_lt ?_ e4))
      omega
    have := blen_pos h1
    omega
  obtain ⟨E, hE⟩ : ∃ E : Int, E = a.e - b.e - (N : Nat) := ⟨_, rfl⟩
  rw [← hE] at hf ⊢
  unfold sW at hf ⊢
  obtain ⟨u, hu⟩ : ∃ u, u = F.eOf (E + blen Q) := ⟨_, rfl⟩
  have hue : u = max (E + blen Q - F.fr - 1) F.low := hu
  rw [← hu] at hf ⊢
  obtain ⟨kk, hkk⟩ : ∃ kk, kk = (u - E).toNat := ⟨_, rfl⟩
  rw [← hkk] at hf ⊢
  have k0 : 0 < kk := by omega
  -- the count of units
  obtain ⟨lost, hlost⟩ : ∃ l, l = !decide (A % b.m = 0) := ⟨_, rfl⟩
  rw [← hlost] at hf ⊢
  obtain ⟨up, hup⟩ : ∃ up : Bool, (rdN md (a.n != b.n) Q lost kk).1 = Q / 2 ^ kk + up.toNat ∧ ((rdN md (a.n != b.n) Q lost kk).2 = true → up = false ∧ Q % 2 ^ kk = 0 ∧ A % b.m = 0) := by
    refine ⟨_, rfl, fun h => ?_⟩
    simp only [rdN, Bool.and_eq_true, Bool.not_eq_true'] at h
    obtain ⟨q1, _, _⟩ := half_spec Q k0
    rw [h.1, h.2]
    refine ⟨upB_ex _ _ _, ?_, ?_⟩
    · have h2 := h.2
      simp only [moreN, Bool.or_eq_false_iff, decide_eq_false_iff_not, ne_eq, Decidable.not_not] at h2
      rw [q1, h.1, h2.2]; rfl
    · have h2 := h.2
      simp only [moreN, Bool.or_eq_false_iff] at h2
      have h3 := h2.1
      rw [hlost] at h3
      simpa using h3
  have hbd : (rdN md (a.n != b.n) Q lost kk).1 ≤ 2 ^ (F.fr + 1) := by
    rw [hup.1]
    have hb1 : blen (Q / 2 ^ kk) ≤ F.fr + 1 := by rw [blen_div]; omega
    have := blen_le.1 hb1
    cases up <;> simp <;> omega
  have hlo2 : u = F.low ∨ 2 ^ F.fr ≤ (rdN md (a.n != b.n) Q lost kk).1 := by
    by_cases q : u = F.low
    · exact Or.inl q
    · right
      have : 2 ^ F.fr ≤ Q / 2 ^ kk := lt_blen.1 (by rw [blen_div]; omega)
      rw [hup.1]; omega
  have hfine : blen (rdN md (a.n != b.n) Q lost (blen Q - F.fr - 1)).1 ≤ F.fr + 2 := by
    have hb1 : blen (Q / 2 ^ (blen Q - F.fr - 1)) ≤ F.fr + 1 := by rw [blen_div]; omega
    have h2 := blen_le.1 hb1
    have hb : ∀ b : Bool, b.toNat ≤ 1 := fun b => by cases b <;> decide
    rw [blen_le, show F.fr + 2 = (F.fr + 1) + 1 by omega, Nat.pow_succ]
    simp only [rdN]
    have := hb (upB md (a.n != b.n) (decide (Q / 2 ^ (blen Q - F.fr - 1) % 2 = 1)) (halfN Q (blen Q - F.fr - 1)) (moreN Q lost (blen Q - F.fr - 1)))
    have h3 := Nat.two_pow_pos (F.fr + 1)
    omega
  generalize hK : (rdN md (a.n != b.n) Q lost kk).1 = K at *
  generalize (rdN md (a.n != b.n) Q lost (blen Q - F.fr - 1)).1 = fine at *
  generalize (rdN md (a.n != b.n) Q lost kk).2 = ex at *
  unfold wordOf at hf ⊢
  have hbig := enc_big F (n := K) (u := u) hbd (by omega) hlo2
  by_cases ov : F.wide < blen K + u
  · rw [if_pos ov] at hf; simp only at hf; omega
  · rw [if_neg ov] at hf ⊢
    have hs : F.enc K u < F.i0 := by
      rcases Nat.lt_or_ge (F.enc K u) F.i0 with q | q
      · exact q
      · exact absurd (hbig.2 q) ov
    obtain ⟨v1, v2, v3⟩ := iv_val (F := F) (a.n != b.n) hs
    rw [magN_enc F hbd (by omega) hlo2] at v1
    have hval : F.val (F.enc K u + F.sgn (a.n != b.n)) = mkD (a.n != b.n) K u := nz_eq v3 (Nz_mk _ _ _) v2 (LoE_mk (by omega)) (by rw [v1, iv_mk (by omega)])
    -- S
    have hS1 : Q * b.m = Q / 2 ^ kk * b.m * 2 ^ kk + Q % 2 ^ kk * b.m := by
      have e := Nat.div_add_mod Q (2 ^ kk)
      conv => lhs; rw [← e]
      rw [Nat.add_mul]
      congr 1
      rw [Nat.mul_assoc, Nat.mul_comm]
    have hS2 : Q % 2 ^ kk * b.m + A % b.m < b.m * 2 ^ kk := by
      have e := Nat.mod_lt Q (Nat.two_pow_pos kk)
      have := Nat.mul_le_mul_left b.m (show Q % 2 ^ kk + 1 ≤ 2 ^ kk from e)
      rw [Nat.mul_add, Nat.mul_one, Nat.mul_comm b.m (Q % 2 ^ kk)] at this
      omega
    have hdm' : Q * b.m + A % b.m = A := by rw [Nat.mul_comm]; exact hdm
    have hKb : K * b.m * 2 ^ kk = Q / 2 ^ kk * b.m * 2 ^ kk + up.toNat * (b.m * 2 ^ kk) := by rw [hup.1, Nat.add_mul, Nat.add_mul, Nat.mul_assoc up.toNat]
    refine ⟨K, N, kk, u, fin_size _ hs, by unfold Fm.sgn; split <;> omega, hval, by omega, ?_, ?_, ?_, ?_⟩
    · intro hf
      simp only at hf
      have : ¬ ((blen fine : Int) + (E + blen Q - F.fr - 1) < F.low + F.fr + 1) := by
        intro q; rw [if_pos q] at hf; split at hf <;> omega
      omega
    · rw [← hA, hKb]
      generalize Q / 2 ^ kk * b.m * 2 ^ kk = X at *
      generalize b.m * 2 ^ kk = Y at *
      cases up <;> simp <;> omega
    · rw [← hA, hKb]
      generalize Q / 2 ^ kk * b.m * 2 ^ kk = X at *
      generalize b.m * 2 ^ kk = Y at *
      cases up <;> simp <;> omega
    · intro h
      have hx : ex = true := by
        cases ex
        · simp only [Bool.false_eq_true, if_false] at h; split at h <;> simp at h
        · rfl
      obtain ⟨x1, x2, x3⟩ := hup.2 hx
      rw [← hA, hKb, x1, ← hdm', x3, hS1, x2]; simp

theorem remains (F : Fm) {md : Int} {a b : Nat} (ha : a < 2 * F.sg) (hb : b < 2 * F.sg) (fa : F.fin a) (fb : F.fin b) (h1 : F.cls b ≠ 1) (hf : (divW2 F md a b).2 = 0 ∨ (divW2 F md a b).2 = 16)
    (hl : (subD (F.vl a) (mulD (F.vl (divW2 F md a b).1) (F.vl b))).m ≠ 0 → F.low ≤ (subD (F.vl a) (mulD (F.vl (divW2 F md a b).1) (F.vl b))).e) :
    F.fin (divW2 F md a b).1 ∧ (divW2 F md a b).1 < 2 * F.sg ∧ ∃ r : Nat, fmaW F md (divW2 F md a b).1 (F.flip b) a = (r, 0) ∧ r < 2 * F.sg ∧ F.fin r ∧ F.vl r = subD (F.vl a) (mulD (F.vl (divW2 F md a b).1) (F.vl b)) := by
  have ca := fin_iff.1 fa
  have cb := fin_iff.1 fb
  have hF := fm_facts F
  have nb : (F.vl b).m ≠ 0 := fun h => h1 ((cls_val1 hb fb).2 h)
  obtain ⟨_, g2, g3, g4⟩ := flip_facts hb
  -- it is enough that the rest fits
  have fin : ∀ q, q < 2 * F.sg → F.fin q → ((subD (F.vl a) (mulD (F.vl q) (F.vl b))).m ≠ 0 → F.fits (subD (F.vl a) (mulD (F.vl q) (F.vl b)))) →
      ∃ r : Nat, fmaW F md q (F.flip b) a = (r, 0) ∧ r < 2 * F.sg ∧ F.fin r ∧ F.vl r = subD (F.vl a) (mulD (F.vl q) (F.vl b)) := fun q hq fq hfit => by
    have cq := fin_iff.1 fq
    have hnz := Nz_sub (Nz_vl F a) (Nz_mul (F.vl q) (F.vl b))
    obtain ⟨r, r1, r2, r3, r4⟩ := sum_fit F (md := md) hnz hfit
    have hp3 : prC (F.cls q) (F.cls b) = 1 ∨ prC (F.cls q) (F.cls b) = 3 := by unfold prC; rw [if_neg (by omega)]; split <;> simp
    have hd : (if prC (F.cls q) (F.cls b) = 3 then mulD (F.vl q) (negD (F.vl b)) else (⟨false, 0, 0⟩ : Dy)) = negD (mulD (F.vl q) (F.vl b)) := by
      rw [mulD_neg]
      split
      · rfl
      · rename_i h
        have : F.cls q = 1 := by
          unfold prC at h; rw [if_neg (by omega)] at h
          by_cases hh : F.cls q = 1 ∨ F.cls b = 1
          · omega
          · rw [if_neg hh] at h; exact absurd rfl h
        rw [mulD_z0 (Or.inl ((cls_val1 hq fq).1 this))]; rfl
    have hsum : addD (negD (mulD (F.vl q) (F.vl b))) (F.vl a) = subD (F.vl a) (mulD (F.vl q) (F.vl b)) := addD_comm (Nz_neg (Nz_mul _ _)) (Nz_vl F a)
    have hfm : fmaW F md q (F.flip b) a = if prC (F.cls q) (F.cls b) = 1 ∧ F.cls a = 1 ∧ (F.ng q != !F.ng b) = F.ng a then (F.sgn (F.ng q != !F.ng b), 0) else sumW F md (subD (F.vl a) (mulD (F.vl q) (F.vl b))) := by
      unfold fmaW
      rw [g2, g3, g4, if_neg (by omega), if_neg (by omega), hd, addP_fin F md (by omega) ca, hsum]
    rw [hfm]
    by_cases z : prC (F.cls q) (F.cls b) = 1 ∧ F.cls a = 1 ∧ (F.ng q != !F.ng b) = F.ng a
    · rw [if_pos z]
      obtain ⟨s1, s2, s3⟩ := sgn_fin F (F.ng q != !F.ng b)
      refine ⟨_, rfl, s1, s2, ?_⟩
      rw [s3]
      have z1 : F.vl a = ⟨false, 0, 0⟩ := by rw [vl_val fa]; exact (cls_zero_w ha z.2.1).2
      have z2 : mulD (F.vl q) (F.vl b) = ⟨false, 0, 0⟩ := by
        rw [if_neg (by omega)] at hd
        have h3 := congrArg Dy.m hd
        have h4 : (mulD (F.vl q) (F.vl b)).m = 0 := by
          unfold negD at h3; split at h3
          · assumption
          · exact h3.symm
        exact (Nz_mul _ _).1 h4
      rw [z1, z2]; rfl
    · rw [if_neg z]
      exact ⟨r, r1, r2, r3, by rw [vl_val r3]; exact r4⟩
  by_cases h2 : F.cls a = 1
  · have hm : divW2 F md a b = (F.sgn (F.ng a != F.ng b), 0) := by
      unfold divW2 divP
      rw [if_neg (by omega), if_neg (by omega), if_neg (by omega), if_neg h1, if_pos (Or.inl h2)]
    obtain ⟨s1, s2, s3⟩ := sgn_fin F (F.ng a != F.ng b)
    have hz : subD (F.vl a) (mulD (F.vl (F.sgn (F.ng a != F.ng b))) (F.vl b)) = ⟨false, 0, 0⟩ := by
      rw [s3, mulD_z0 (Or.inl rfl), vl_val fa, (cls_zero_w ha h2).2]; rfl
    rw [hm]
    exact ⟨s2, s1, fin _ s1 s2 (fun q => by rw [hz] at q; exact absurd rfl q)⟩
  · have na : (F.vl a).m ≠ 0 := fun h => h2 ((cls_val1 ha fa).2 h)
    have hm : divW2 F md a b = quoW F md (F.vl a) (F.vl b) := by
      unfold divW2 divP
      rw [if_neg (by omega), if_neg (by omega), if_neg (by omega), if_neg h1, if_neg (by omega)]
    rw [hm] at hf hl ⊢
    obtain ⟨K, N, kk, u, q1, q2, q3, q4, q5, q6, q7, q8⟩ := quo_core F (md := md) na nb hf
    have f1 := fits_val F fa (by rw [← vl_val fa]; exact na)
    have f2 := fits_val F fb (by rw [← vl_val fb]; exact nb)
    rw [← vl_val fa] at f1
    rw [← vl_val fb] at f2
    obtain ⟨_, f1a, f1b, f1c⟩ := f1
    obtain ⟨_, f2a, f2b, f2c⟩ := f2
    generalize quoW F md (F.vl a) (F.vl b) = S at *
    obtain ⟨q, fl⟩ := S
    simp only at q1 q2 q3 hf hl q5 q8 ⊢
    refine ⟨q1, q2, fin q q2 q1 fun h0 => ?_⟩
    have hlow := hl h0
    rw [vl_val q1, q3] at h0 hlow ⊢
    obtain ⟨L, hL⟩ : ∃ L : Int, L = (F.vl a).e - N := ⟨_, rfl⟩
    have la : LoE (F.vl a) L := Or.inr (by omega)
    have lq : LoE (mkD ((F.vl a).n != (F.vl b).n) K u) u := LoE_mk (by omega)
    have lb : LoE (F.vl b) (F.vl b).e := Or.inr (by omega)
    obtain ⟨m1, m2⟩ := iv_mul lq lb
    have m3 := iv_scale m2 (show L ≤ u + (F.vl b).e by omega)
    obtain ⟨r1, r2⟩ := iv_sub la (m2.mono (show L ≤ u + (F.vl b).e by omega))
    have hnz := Nz_sub (Nz_vl F a) (Nz_mul (mkD ((F.vl a).n != (F.vl b).n) K u) (F.vl b))
    have hval : iv (subD (F.vl a) (mulD (mkD ((F.vl a).n != (F.vl b).n) K u) (F.vl b))) L = (if (F.vl a).n then -1 else 1) * (((F.vl a).m * 2 ^ N : Nat) - ((K * (F.vl b).m * 2 ^ kk : Nat) : Int)) := by
      rw [r1, m3, m1, iv_mk (Int.le_refl _), Int.sub_self]
      have e1 : ((F.vl a).e - L).toNat = N := by omega
      have e2 : (u + (F.vl b).e - L).toNat = kk := by omega
      unfold iv
      rw [e1, e2, Int.sub_self]
      simp only [Int.toNat_zero, Nat.pow_zero, Nat.mul_one, Int.natCast_mul]
      generalize ((F.vl a).m : Int) * ((2 ^ N : Nat) : Int) = x
      generalize ((2 ^ kk : Nat) : Int) = y
      generalize ((F.vl b).m : Int) = z
      generalize (K : Int) = w
      have e3 : w * z * y = w * (z * y) := Int.mul_assoc ..
      cases (F.vl a).n <;> cases (F.vl b).n <;> simp [e3, Int.mul_neg, Int.neg_mul] <;> omega
    have hne : fl = 16 := by
      rcases hf with h | h
      · exfalso
        have h8 := q8 h
        apply h0
        have h9 : iv (subD (F.vl a) (mulD (mkD ((F.vl a).n != (F.vl b).n) K u) (F.vl b))) L = iv (⟨false, 0, 0⟩ : Dy) L := by
          rw [hval, h8, Int.sub_self, Int.mul_zero, iv_zero rfl]
        have := nz_eq hnz ⟨fun _ => rfl, fun h => absurd rfl h⟩ r2 (Or.inl rfl) h9
        rw [this]
      · exact h
    have h5 := q5 hne
    have bS : bl (iv (subD (F.vl a) (mulD (mkD ((F.vl a).n != (F.vl b).n) K u) (F.vl b))) L) ≤ blen (F.vl b).m + kk := by
      rw [bl_le, hval]
      have e1 := lt_pow_blen (F.vl b).m
      have e2 := Nat.mul_lt_mul_of_pos_right e1 (Nat.two_pow_pos kk)
      unfold P2
      rw [Nat.pow_add]
      generalize (F.vl a).m * 2 ^ N = x at *
      generalize K * (F.vl b).m * 2 ^ kk = y at *
      generalize (F.vl b).m * 2 ^ kk = z at *
      generalize 2 ^ blen (F.vl b).m * 2 ^ kk = t at *
      cases (F.vl a).n <;> simp <;> omega
    have hN : P2 (min N kk) ∣ iv (subD (F.vl a) (mulD (mkD ((F.vl a).n != (F.vl b).n) K u) (F.vl b))) L := by
      rw [hval]
      have d1 : P2 (min N kk) ∣ (((F.vl a).m * 2 ^ N : Nat) : Int) := Int.dvd_trans (P2_dvd (by omega)) (Int.natCast_dvd_natCast.2 ⟨(F.vl a).m, Nat.mul_comm _ _⟩)
      have d2 : P2 (min N kk) ∣ ((K * (F.vl b).m * 2 ^ kk : Nat) : Int) := Int.dvd_trans (P2_dvd (show min N kk ≤ kk by omega)) (Int.natCast_dvd_natCast.2 ⟨K * (F.vl b).m, Nat.mul_comm _ _⟩)
      have d3 := Int.dvd_sub d1 d2
      cases (F.vl a).n
      · simpa using d3
      · have := Int.dvd_neg.2 d3; simpa using this
    have hrep : Rep (F.fr + 1) (iv (subD (F.vl a) (mulD (mkD ((F.vl a).n != (F.vl b).n) K u) (F.vl b))) L) := Rep_of hN (by omega)
    obtain ⟨t1, t2⟩ := rep_blen hnz r2 h0 hrep
    exact ⟨h0, t1, hlow, by omega⟩
end Go.Cv

/-
  The statement on what a product loses.
-/
namespace Go.Cv
variable {G : Nat → Option (List AV)} {T : Tbl} {g : Nat}

theorem sum_flag (F : Fm) (m : Int) (d : Dy) : (sumW F m d).2 = 0 ∨ (sumW F m d).2 = 16 ∨ (sumW F m d).2 = 20 ∨ (sumW F m d).2 = 24 := by
  unfold sumW; split
  · exact Or.inl rfl
  · exact flag_val F m d
theorem mul_flag (F : Fm) {a b : Nat} (fa : F.fin a) (fb : F.fin b) (m : Int) : (mulW2 F m a b).2 = 0 ∨ (mulW2 F m a b).2 = 16 ∨ (mulW2 F m a b).2 = 20 ∨ (mulW2 F m a b).2 = 24 := by
  unfold mulW2
  rw [mulP_fin F m (fin_iff.1 fa) (fin_iff.1 fb)]
  split
  · exact Or.inl rfl
  · exact sum_flag F m _
theorem signed_flip (F : Fm) {w : Nat} : w % F.sg + F.sgn (decide (w < F.sg)) = F.flip w := by
  unfold Fm.flip Fm.ng
  by_cases h : F.sg ≤ w
  · rw [decide_eq_true h, decide_eq_false (by omega)]; rfl
  · rw [decide_eq_false h, decide_eq_true (by omega)]; rfl

theorem finite_f (hD : HasD g T) (hE : HasE g T) (hF : HasF g T) (hU : HasG g T) (hV : HasH g T) (F : Fm) {a b : Nat} (ha : a < 2 * F.sg) (hb : b < 2 * F.sg) (fa : F.fin a) (fb : F.fin b) :
    run G T 226 [.int .u8 F.u, .imm 2 [.int .u64 (a : Int), .int .u64 (b : Int)]] = some (.bool true) := by
  rw [run_k G T hV.law05_finite]
  have h1 := ref05_Opens2 (G := G) (T := T) hD hE hF hU F (md := 1) (by omega) (sg_64 ha) (sg_64 hb)
  rw [if_pos ⟨ha, hb⟩] at h1
  have f1 := ref03_Finite (G := G) (T := T) hD hF F (sg_64 ha)
  have f2 := ref03_Finite (G := G) (T := T) hD hF F (sg_64 hb)
  rw [decide_eq_true fa] at f1
  rw [decide_eq_true fb] at f2
  repeat' (first | (simp (maxSteps := 1000000) only [evB, if_true, if_false, ne_eq, Nat.reduceEqDiff, Nat.reduceAdd, reduceCtorEq, Int.reduceLE, Int.reduceLT, Int.reduceEq, Int.reduceNeg, Int.reduceToNat, Int.reducePow, Int.reduceMod, Int.reduceDiv, Int.reduceSub, Int.reduceAdd, Int.reduceMul, Nat.reduceMul, Nat.reduceSub, Nat.reducePow, exB, resC_ptr, res_cell, nilb, nilf, faddr_p, c_law05_finite, h1, fn_loop, c_law05_finite_b1, iw20, iw21, rp_0, rp_1, wr_1, wr1, wr_2, wr2, f1, f2]) | (simp (maxSteps := 1000000) (disch := first | with_reducible assumption | omega) only [dxB]) | (simp only [kI_d, kG_dt, kG_df]; split) | (simp only [kI_v, kG_vt, kG_vf]; split))

set_option maxHeartbeats 4000000 in
theorem law05_SoftTwoProduct (hA : HasA g T) (hB : HasB g T) (hC : HasC g T) (hG : Glob G g) (hD : HasD g T) (hE : HasE g T) (hF : HasF g T) (hU : HasG g T) (hV : HasH g T) (hW : HasJ g T) (hK : run G T 163 [] = some (.bool true))
    {f : Int} {a b : Nat} (ha : a < 18446744073709551616) (hb : b < 18446744073709551616) :
    run G T 238 [.int .u8 f, .int .u64 (a : Int), .int .u64 (b : Int)] = some (.bool true) := by
  rw [run_k G T hW.law05_SoftTwoProduct]
  rcases law05_finite2 (G := G) (T := T) (f := f) hD hE hF hU hV ha hb with h1 | ⟨F, rfl, ⟨k1, k2⟩, ⟨fa, fb⟩, h1⟩
  · repeat' (first | (simp (maxSteps := 1000000) only [evB, if_true, if_false, ne_eq, Nat.reduceEqDiff, Nat.reduceAdd, reduceCtorEq, Int.reduceLE, Int.reduceLT, Int.reduceEq, Int.reduceNeg, Int.reduceToNat, Int.reducePow, Int.reduceMod, Int.reduceDiv, Int.reduceSub, Int.reduceAdd, Int.reduceMul, Nat.reduceMul, Nat.reduceSub, Nat.reducePow, exB, resC_ptr, res_cell, nilb, nilf, faddr_p, c_law05_SoftTwoProduct, h1, hK]) | (simp (maxSteps := 1000000) (disch := first | with_reducible assumption | omega) only [dxB]) | (simp only [kI_d, kG_dt, kG_df]; split) | (simp only [kI_v, kG_vt, kG_vf]; split))
  · obtain ⟨z1, v1⟩ := ref03_Value (G := G) (T := T) hA hB hC hD hF F ha fa
    obtain ⟨z2, v2⟩ := ref03_Value (G := G) (T := T) hA hB hC hD hF F hb fb
    rw [← vl_val fa] at v1
    rw [← vl_val fb] at v2
    have b1 := Bd_vl F a
    have b2 := Bd_vl F b
    obtain ⟨p1, p2, p3⟩ := b1
    obtain ⟨q1, q2, q3⟩ := b2
    have l1 := dl_len_blen (F.vl a).m
    have l2 := dl_len_blen (F.vl b).m
    obtain ⟨z3, m1⟩ := ref02_Mul (G := G) (T := T) hB hC hF (z := z1) (y := z2) (a := F.vl a) (b := F.vl b) (by omega) (by omega) (by omega) (by omega)
    rw [show mkD ((F.vl a).n != (F.vl b).n) ((F.vl a).m * (F.vl b).m) ((F.vl a).e + (F.vl b).e) = mulD (F.vl a) (F.vl b) from rfl] at m1
    have r1 := soft_Mul (G := G) (T := T) hA hG hC hD hE hU F (md := 1) (by omega) k1 k2
    have lo := ref03_Low (G := G) (T := T) hD F
    have hfl := mul_flag F fa fb 1
    by_cases hv : (mulW2 F 1 a b).2 = 20
    · rw [hv] at r1
      generalize (mulW2 F 1 a b).1 = S at *
      have a4 := and4_20
      clear hfl p1 p2 p3 q1 q2 q3 l1 l2
      generalize mulD (F.vl a) (F.vl b) = d at *
      generalize F.vl a = va at *
      generalize F.vl b = vb at *
      simp only [DyA, A3] at *
      repeat' (first | (simp (maxSteps := 1000000) only [evB, if_true, if_false, ne_eq, Nat.reduceEqDiff, Nat.reduceAdd, reduceCtorEq, Int.reduceLE, Int.reduceLT, Int.reduceEq, Int.reduceNeg, Int.reduceToNat, Int.reducePow, Int.reduceMod, Int.reduceDiv, Int.reduceSub, Int.reduceAdd, Int.reduceMul, Nat.reduceMul, Nat.reduceSub, Nat.reducePow, exB, resC_ptr, res_cell, nilb, nilf, faddr_p, c_law05_SoftTwoProduct, h1, v1, v2, m1, r1, a4, lo, hK]) | (simp (maxSteps := 1000000) (disch := first | with_reducible assumption | omega) only [dxB]) | (simp only [kI_d, kG_dt, kG_df]; split) | (simp only [kI_v, kG_vt, kG_vf]; split))
    · have a4 := and4_no (x := (mulW2 F 1 a b).2) (by omega)
      by_cases hl : F.low ≤ (mulD (F.vl a) (F.vl b)).e
      · obtain ⟨g1, g2, l, g3, g4, g5, g6⟩ := two_prod F k1 k2 fa fb hv hl
        have sn := ref03_Sign (G := G) (T := T) hD F
        have sd := ref03_Signed (G := G) (T := T) hD F (n := decide ((mulW2 F 1 a b).1 < F.sg)) (w := (mulW2 F 1 a b).1)
        rw [signed_flip] at sd
        have r2 := soft_MulAdd (G := G) (T := T) hA hG hC hD hE hU F (md := 1) (by omega) k1 k2 (flip_facts g2).1
        rw [g3] at r2
        have h2 := finite_f (G := G) (T := T) hD hE hF hU hV F g2 g4 g1 g5
        obtain ⟨z4, v4⟩ := ref03_Value (G := G) (T := T) hA hB hC hD hF F (sg_64 g2) g1
        obtain ⟨z5, v5⟩ := ref03_Value (G := G) (T := T) hA hB hC hD hF F (sg_64 g4) g5
        rw [← vl_val g1] at v4
        rw [← vl_val g5] at v5
        obtain ⟨z6, ad⟩ := ref02_Add (G := G) (T := T) hB hC (z := z4) (y := z5) ((Bd_vl F (mulW2 F 1 a b).1).mono (by decide)) ((Bd_vl F l).mono (by decide))
        rw [g6] at ad
        have hbm := (Bd_mul (Bd_vl F a) (Bd_vl F b)).bl
        have hls := dl_len_blen (mulD (F.vl a) (F.vl b)).m
        have hs := same_dy (G := G) (T := T) hB hC (z := z6) (y := z3) (a := mulD (F.vl a) (F.vl b)) (b := mulD (F.vl a) (F.vl b)) (by omega)
        rw [decide_eq_true (show sameD (mulD (F.vl a) (F.vl b)) (mulD (F.vl a) (F.vl b)) from ⟨rfl, rfl, rfl⟩)] at hs
        clear hfl p1 p2 p3 q1 q2 q3 l1 l2 g6 hv hbm hls g3
        generalize mulW2 F 1 a b = S at *
        generalize mulD (F.vl a) (F.vl b) = d at *
        generalize F.vl a = va at *
        generalize F.vl b = vb at *
        generalize F.vl l = vl at *
        generalize F.vl S.1 = vs at *
        obtain ⟨s, x⟩ := S
        simp only at *
        have c1 : ¬ d.e < F.low := by omega
        have c2 : decide ((s : Int) < (F.sg : Int)) = decide (s < F.sg) := by simp
        generalize decide (s < F.sg) = bs at *
        simp only [cast0] at r2
        simp only [DyA, A3] at *
        repeat' (first | (simp (maxSteps := 1000000) only [evB, if_true, if_false, ne_eq, Nat.reduceEqDiff, Nat.reduceAdd, reduceCtorEq, Int.reduceLE, Int.reduceLT, Int.reduceEq, Int.reduceNeg, Int.reduceToNat, Int.reducePow, Int.reduceMod, Int.reduceDiv, Int.reduceSub, Int.reduceAdd, Int.reduceMul, Nat.reduceMul, Nat.reduceSub, Nat.reducePow, exB, resC_ptr, res_cell, nilb, nilf, faddr_p, c_law05_SoftTwoProduct, h1, v1, v2, m1, r1, a4, lo, c1, c2, sn, sd, r2, h2, v4, v5, ad, hs, hK]) | (simp (maxSteps := 1000000) (disch := first | with_reducible assumption | omega) only [dxB]) | (simp only [kI_d, kG_dt, kG_df]; split) | (simp only [kI_v, kG_vt, kG_vf]; split))
      · have c1 : (mulD (F.vl a) (F.vl b)).e < F.low := by omega
        clear hfl p1 p2 p3 q1 q2 q3 l1 l2 hv
        generalize mulW2 F 1 a b = S at *
        generalize mulD (F.vl a) (F.vl b) = d at *
        generalize F.vl a = va at *
        generalize F.vl b = vb at *
        obtain ⟨s, x⟩ := S
        simp only [DyA, A3] at *
        repeat' (first | (simp (maxSteps := 1000000) only [evB, if_true, if_false, ne_eq, Nat.reduceEqDiff, Nat.reduceAdd, reduceCtorEq, Int.reduceLE, Int.reduceLT, Int.reduceEq, Int.reduceNeg, Int.reduceToNat, Int.reducePow, Int.reduceMod, Int.reduceDiv, Int.reduceSub, Int.reduceAdd, Int.reduceMul, Nat.reduceMul, Nat.reduceSub, Nat.reducePow, exB, resC_ptr, res_cell, nilb, nilf, faddr_p, c_law05_SoftTwoProduct, h1, v1, v2, m1, r1, a4, lo, c1, hK]) | (simp (maxSteps := 1000000) (disch := first | with_reducible assumption | omega) only [dxB]) | (simp only [kI_d, kG_dt, kG_df]; split) | (simp only [kI_v, kG_vt, kG_vf]; split))
end Go.Cv

/-
  The statement on six operations that tell what a sum has lost.
-/
namespace Go.Cv
variable {G : Nat → Option (List AV)} {T : Tbl} {g : Nat}

theorem i6_0 (a b c d e f : AV) (k : IntKind) : iaddrV 1 (.imm 6 [a, b, c, d, e, f]) (.int k 0) = some (.iptr [a, b, c, d, e, f] 0) := rfl
theorem i6_1 (a b c d e f : AV) (k : IntKind) : iaddrV 1 (.imm 6 [a, b, c, d, e, f]) (.int k 1) = some (.iptr [a, b, c, d, e, f] 1) := rfl
theorem i6_2 (a b c d e f : AV) (k : IntKind) : iaddrV 1 (.imm 6 [a, b, c, d, e, f]) (.int k 2) = some (.iptr [a, b, c, d, e, f] 2) := rfl
theorem i6_3 (a b c d e f : AV) (k : IntKind) : iaddrV 1 (.imm 6 [a, b, c, d, e, f]) (.int k 3) = some (.iptr [a, b, c, d, e, f] 3) := rfl
theorem i6_4 (a b c d e f : AV) (k : IntKind) : iaddrV 1 (.imm 6 [a, b, c, d, e, f]) (.int k 4) = some (.iptr [a, b, c, d, e, f] 4) := rfl
theorem i6_5 (a b c d e f : AV) (k : IntKind) : iaddrV 1 (.imm 6 [a, b, c, d, e, f]) (.int k 5) = some (.iptr [a, b, c, d, e, f] 5) := rfl
theorem rp6_3 (h : Mem) (a b c d : AV) (l : List AV) : rdAt G h 1 (.iptr (a :: b :: c :: d :: l) 3) = some [d] := by simp [rdAt]
theorem rp_4 (h : Mem) (a b c d e : AV) (l : List AV) : rdAt G h 1 (.iptr (a :: b :: c :: d :: e :: l) 4) = some [e] := by simp [rdAt]
theorem rp_5 (h : Mem) (a b c d e f : AV) (l : List AV) : rdAt G h 1 (.iptr (a :: b :: c :: d :: e :: f :: l) 5) = some [f] := by simp [rdAt]
theorem wr_4 : IntKind.i64.wrap (3 + 1) = 4 := rfl
theorem wr_5 : IntKind.i64.wrap (4 + 1) = 5 := rfl
theorem wr_6 : IntKind.i64.wrap (5 + 1) = 6 := rfl
theorem wr4 : IntKind.i64.wrap 4 = 4 := rfl
theorem wr5 : IntKind.i64.wrap 5 = 5 := rfl
theorem wr6 : IntKind.i64.wrap 6 = 6 := rfl

theorem fi6 (x a b c d e f : Int) : fiO true (setO (repA 6 [.int .u64 x]) 0 [.int .u64 a]) [(1, 1, .int .u64 b), (2, 1, .int .u64 c), (3, 1, .int .u64 d), (4, 1, .int .u64 e), (5, 1, .int .u64 f)] = some [.int .u64 a, .int .u64 b, .int .u64 c, .int .u64 d, .int .u64 e, .int .u64 f] := by
  simp [fiO, setO, fillA, repA, setAt, cellsA, okCell]
def im6 (a b c d e f : Nat) : AV := .imm 6 [.int .u64 (a : Int), .int .u64 (b : Int), .int .u64 (c : Int), .int .u64 (d : Int), .int .u64 (e : Int), .int .u64 (f : Int)]
theorem ref05_Opens6 (hD : HasD g T) (hE : HasE g T) (hF : HasF g T) (hU : HasG g T) (F : Fm) {md : Int} (hm : 1 ≤ md ∧ md ≤ 5) {a b c d e f : Nat} (ha : a < 2 * F.sg) (hb : b < 2 * F.sg) (hc : c < 2 * F.sg) (hd : d < 2 * F.sg) (he : e < 2 * F.sg) (hf : f < 2 * F.sg) :
    run G T 162 [.int .u8 F.u, .int .u8 md, im6 a b c d e f] = some (.int .i64 0) := by
  rw [run_k G T hU.ref05_Opens]
  have h1 := ref03_IsF (G := G) (T := T) hD F
  have h2 := ref04_Is (G := G) (T := T) hE (m := md)
  rw [decide_eq_true hm] at h2
  have gd := fun (w : Nat) (hw : w < 2 * F.sg) => (by have := ref03_Good (G := G) (T := T) hD hF F (sg_64 hw); rwa [if_pos hw] at this : run G T 149 [.int .u8 F.u, .int .u64 (w : Int)] = some (.int .i64 0))
  have g1 := gd a ha
  have g2 := gd b hb
  have g3 := gd c hc
  have g4 := gd d hd
  have g5 := gd e he
  have g6 := gd f hf
  clear gd
  unfold im6
  repeat' (first | (simp (maxSteps := 1000000) only [evB, if_true, if_false, ne_eq, Nat.reduceEqDiff, Nat.reduceAdd, reduceCtorEq, Int.reduceLE, Int.reduceLT, Int.reduceEq, Int.reduceNeg, Int.reduceToNat, Int.reducePow, Int.reduceMod, Int.reduceDiv, Int.reduceSub, Int.reduceAdd, Int.reduceMul, Nat.reduceMul, Nat.reduceSub, Nat.reducePow, exB, resC_ptr, res_cell, nilb, nilf, faddr_p, c_ref05_Opens, h1, h2, op5_loop, c_ref05_Opens_b1, i6_0, i6_1, i6_2, i6_3, i6_4, i6_5, rp_0, rp_1, rp_2, rp6_3, rp_4, rp_5, wr_1, wr1, wr_2, wr2, wr_3, wr3, wr_4, wr4, wr_5, wr5, wr_6, wr6, g1, g2, g3, g4, g5, g6]) | (simp (maxSteps := 1000000) (disch := first | with_reducible assumption | omega) only [dxB]) | (simp only [kI_d, kG_dt, kG_df]; split) | (simp only [kI_v, kG_vt, kG_vf]; split))

theorem law05_finite6 (hD : HasD g T) (hE : HasE g T) (hF : HasF g T) (hU : HasG g T) (hV : HasH g T) (F : Fm) {a b c d e f : Nat} (ha : a < 2 * F.sg) (hb : b < 2 * F.sg) (hc : c < 2 * F.sg) (hd : d < 2 * F.sg) (he : e < 2 * F.sg) (hf : f < 2 * F.sg) :
    (run G T 226 [.int .u8 F.u, im6 a b c d e f] = some (.bool false)) ∨
    ((F.fin a ∧ F.fin b ∧ F.fin c ∧ F.fin d ∧ F.fin e ∧ F.fin f) ∧ run G T 226 [.int .u8 F.u, im6 a b c d e f] = some (.bool true)) := by
  rw [run_k G T hV.law05_finite]
  have h1 := ref05_Opens6 (G := G) (T := T) hD hE hF hU F (md := 1) (by omega) ha hb hc hd he hf
  have fi := fun (w : Nat) (hw : w < 2 * F.sg) => ref03_Finite (G := G) (T := T) hD hF F (sg_64 hw)
  have g1 := fi a ha
  have g2 := fi b hb
  have g3 := fi c hc
  have g4 := fi d hd
  have g5 := fi e he
  have g6 := fi f hf
  clear fi
  unfold im6 at *
  by_cases p1 : F.fin a
  · rw [decide_eq_true p1] at g1
    by_cases p2 : F.fin b
    · rw [decide_eq_true p2] at g2
      by_cases p3 : F.fin c
      · rw [decide_eq_true p3] at g3
        by_cases p4 : F.fin d
        · rw [decide_eq_true p4] at g4
          by_cases p5 : F.fin e
          · rw [decide_eq_true p5] at g5
            by_cases p6 : F.fin f
            · rw [decide_eq_true p6] at g6
              right; refine ⟨⟨p1, p2, p3, p4, p5, p6⟩, ?_⟩
              repeat' (first | (simp (maxSteps := 1000000) only [evB, if_true, if_false, ne_eq, Nat.reduceEqDiff, Nat.reduceAdd, reduceCtorEq, Int.reduceLE, Int.reduceLT, Int.reduceEq, Int.reduceNeg, Int.reduceToNat, Int.reducePow, Int.reduceMod, Int.reduceDiv, Int.reduceSub, Int.reduceAdd, Int.reduceMul, Nat.reduceMul, Nat.reduceSub, Nat.reducePow, exB, resC_ptr, res_cell, nilb, nilf, faddr_p, c_law05_finite, h1, fn_loop, c_law05_finite_b1, i6_0, i6_1, i6_2, i6_3, i6_4, i6_5, rp_0, rp_1, rp_2, rp6_3, rp_4, rp_5, wr_1, wr1, wr_2, wr2, wr_3, wr3, wr_4, wr4, wr_5, wr5, wr_6, wr6, g1, g2, g3, g4, g5, g6]) | (simp (maxSteps := 1000000) (disch := first | with_reducible assumption | omega) only [dxB]) | (simp only [kI_d, kG_dt, kG_df]; split) | (simp only [kI_v, kG_vt, kG_vf]; split))
            · rw [decide_eq_false p6] at g6
              left
              repeat' (first | (simp (maxSteps := 1000000) only [evB, if_true, if_false, ne_eq, Nat.reduceEqDiff, Nat.reduceAdd, reduceCtorEq, Int.reduceLE, Int.reduceLT, Int.reduceEq, Int.reduceNeg, Int.reduceToNat, Int.reducePow, Int.reduceMod, Int.reduceDiv, Int.reduceSub, Int.reduceAdd, Int.reduceMul, Nat.reduceMul, Nat.reduceSub, Nat.reducePow, exB, resC_ptr, res_cell, nilb, nilf, faddr_p, c_law05_finite, h1, fn_loop, c_law05_finite_b1, i6_0, i6_1, i6_2, i6_3, i6_4, i6_5, rp_0, rp_1, rp_2, rp6_3, rp_4, rp_5, wr_1, wr1, wr_2, wr2, wr_3, wr3, wr_4, wr4, wr_5, wr5, wr_6, wr6, g1, g2, g3, g4, g5, g6]) | (simp (maxSteps := 1000000) (disch := first | with_reducible assumption | omega) only [dxB]) | (simp only [kI_d, kG_dt, kG_df]; split) | (simp only [kI_v, kG_vt, kG_vf]; split))
          · rw [decide_eq_false p5] at g5
            left
            repeat' (first | (simp (maxSteps := 1000000) only [evB, if_true, if_false, ne_eq, Nat.reduceEqDiff, Nat.reduceAdd, reduceCtorEq, Int.reduceLE, Int.reduceLT, Int.reduceEq, Int.reduceNeg, Int.reduceToNat, Int.reducePow, Int.reduceMod, Int.reduceDiv, Int.reduceSub, Int.reduceAdd, Int.reduceMul, Nat.reduceMul, Nat.reduceSub, Nat.reducePow, exB, resC_ptr, res_cell, nilb, nilf, faddr_p, c_law05_finite, h1, fn_loop, c_law05_finite_b1, i6_0, i6_1, i6_2, i6_3, i6_4, rp_0, rp_1, rp_2, rp6_3, rp_4, wr_1, wr1, wr_2, wr2, wr_3, wr3, wr_4, wr4, wr_5, wr5, g1, g2, g3, g4, g5]) | (simp (maxSteps := 1000000) (disch := first | with_reducible assumption | omega) only [dxB]) | (simp only [kI_d, kG_dt, kG_df]; split) | (simp only [kI_v, kG_vt, kG_vf]; split))
        · rw [decide_eq_false p4] at g4
          left
          repeat' (first | (simp (maxSteps := 1000000) only [evB, if_true, if_false, ne_eq, Nat.reduceEqDiff, Nat.reduceAdd, reduceCtorEq, Int.reduceLE, Int.reduceLT, Int.reduceEq, Int.reduceNeg, Int.reduceToNat, Int.reducePow, Int.reduceMod, Int.reduceDiv, Int.reduceSub, Int.reduceAdd, Int.reduceMul, Nat.reduceMul, Nat.reduceSub, Nat.reducePow, exB, resC_ptr, res_cell, nilb, nilf, faddr_p, c_law05_finite, h1, fn_loop, c_law05_finite_b1, i6_0, i6_1, i6_2, i6_3, rp_0, rp_1, rp_2, rp6_3, wr_1, wr1, wr_2, wr2, wr_3, wr3, wr_4, wr4, g1, g2, g3, g4]) | (simp (maxSteps := 1000000) (disch := first | with_reducible assumption | omega) only [dxB]) | (simp only [kI_d, kG_dt, kG_df]; split) | (simp only [kI_v, kG_vt, kG_vf]; split))
      · rw [decide_eq_false p3] at g3
        left
        repeat' (first | (simp (maxSteps := 1000000) only [evB, if_true, if_false, ne_eq, Nat.reduceEqDiff, Nat.reduceAdd, reduceCtorEq, Int.reduceLE, Int.reduceLT, Int.reduceEq, Int.reduceNeg, Int.reduceToNat, Int.reducePow, Int.reduceMod, Int.reduceDiv, Int.reduceSub, Int.reduceAdd, Int.reduceMul, Nat.reduceMul, Nat.reduceSub, Nat.reducePow, exB, resC_ptr, res_cell, nilb, nilf, faddr_p, c_law05_finite, h1, fn_loop, c_law05_finite_b1, i6_0, i6_1, i6_2, rp_0, rp_1, rp_2, wr_1, wr1, wr_2, wr2, wr_3, wr3, g1, g2, g3]) | (simp (maxSteps := 1000000) (disch := first | with_reducible assumption | omega) only [dxB]) | (simp only [kI_d, kG_dt, kG_df]; split) | (simp only [kI_v, kG_vt, kG_vf]; split))
    · rw [decide_eq_false p2] at g2
      left
      repeat' (first | (simp (maxSteps := 1000000) only [evB, if_true, if_false, ne_eq, Nat.reduceEqDiff, Nat.reduceAdd, reduceCtorEq, Int.reduceLE, Int.reduceLT, Int.reduceEq, Int.reduceNeg, Int.reduceToNat, Int.reducePow, Int.reduceMod, Int.reduceDiv, Int.reduceSub, Int.reduceAdd, Int.reduceMul, Nat.reduceMul, Nat.reduceSub, Nat.reducePow, exB, resC_ptr, res_cell, nilb, nilf, faddr_p, c_law05_finite, h1, fn_loop, c_law05_finite_b1, i6_0, i6_1, rp_0, rp_1, wr_1, wr1, wr_2, wr2, g1, g2]) | (simp (maxSteps := 1000000) (disch := first | with_reducible assumption | omega) only [dxB]) | (simp only [kI_d, kG_dt, kG_df]; split) | (simp only [kI_v, kG_vt, kG_vf]; split))
  · rw [decide_eq_false p1] at g1
    left
    repeat' (first | (simp (maxSteps := 1000000) only [evB, if_true, if_false, ne_eq, Nat.reduceEqDiff, Nat.reduceAdd, reduceCtorEq, Int.reduceLE, Int.reduceLT, Int.reduceEq, Int.reduceNeg, Int.reduceToNat, Int.reducePow, Int.reduceMod, Int.reduceDiv, Int.reduceSub, Int.reduceAdd, Int.reduceMul, Nat.reduceMul, Nat.reduceSub, Nat.reducePow, exB, resC_ptr, res_cell, nilb, nilf, faddr_p, c_law05_finite, h1, fn_loop, c_law05_finite_b1, i6_0, rp_0, wr_1, wr1, g1]) | (simp (maxSteps := 1000000) (disch := first | with_reducible assumption | omega) only [dxB]) | (simp only [kI_d, kG_dt, kG_df]; split) | (simp only [kI_v, kG_vt, kG_vf]; split))

/-- A set of flags. -/
def Fl (x : Nat) : Prop := x < 32
theorem or8 {a b : Nat} (ha : Fl a) (hb : Fl b) : orI .u8 (a : Int) (b : Int) = ((a ||| b : Nat) : Int) ∧ Fl (a ||| b) := by
  have h : a ||| b < 2 ^ 5 := Nat.or_lt_two_pow (n := 5) ha hb
  unfold Fl at *
  refine ⟨?_, h⟩
  rw [orI_eq]
  show IntKind.u8.wrap ((BitVec.ofInt 8 a ||| BitVec.ofInt 8 b).toNat : Int) = _
  simp only [BitVec.toNat_or, BitVec.toNat_ofInt]
  have e1 : ((a : Int) % (2 ^ 8 : Nat)).toNat = a := by omega
  have e2 : ((b : Int) % (2 ^ 8 : Nat)).toNat = b := by omega
  rw [e1, e2]
  show (((a ||| b : Nat) : Int)) % 256 = _
  omega
theorem or_bit {a b : Nat} : (a ||| b).testBit 2 = false ↔ a.testBit 2 = false ∧ b.testBit 2 = false := by
  rw [Nat.testBit_or, Bool.or_eq_false_iff]
theorem and4_bit {x : Nat} (h : Fl x) : andI .u8 (x : Int) 4 = if x.testBit 2 then 4 else 0 := by
  have key : ∀ x, x < 32 → x &&& 4 = if x.testBit 2 then 4 else 0 := by decide
  rw [andI_eq]
  show IntKind.u8.wrap ((BitVec.ofInt 8 x &&& BitVec.ofInt 8 4).toNat : Int) = _
  unfold Fl at h
  simp only [BitVec.toNat_and, BitVec.toNat_ofInt]
  have e1 : ((x : Int) % (2 ^ 8 : Nat)).toNat = x := by omega
  have e2 : ((4 : Int) % (2 ^ 8 : Nat)).toNat = 4 := rfl
  rw [e1, e2, key x h]
  split <;> rfl
theorem or6_bit {a b c d e f : Nat} (ha : Fl a) (hb : Fl b) (hc : Fl c) (hd : Fl d) (he : Fl e) (hf : Fl f)
    (h : ¬ 0 < andI .u8 (orI .u8 (orI .u8 (orI .u8 (orI .u8 (orI .u8 (a : Int) (b : Int)) (c : Int)) (d : Int)) (e : Int)) (f : Int)) 4) : a ≠ 20 ∧ b ≠ 20 ∧ c ≠ 20 ∧ d ≠ 20 ∧ e ≠ 20 ∧ f ≠ 20 := by
  obtain ⟨q1, r1⟩ := or8 ha hb
  rw [q1] at h
  obtain ⟨q2, r2⟩ := or8 r1 hc
  rw [q2] at h
  obtain ⟨q3, r3⟩ := or8 r2 hd
  rw [q3] at h
  obtain ⟨q4, r4⟩ := or8 r3 he
  rw [q4] at h
  obtain ⟨q5, r5⟩ := or8 r4 hf
  rw [q5, and4_bit r5] at h
  have h' : (a ||| b ||| c ||| d ||| e ||| f).testBit 2 = false := by
    cases hh : (a ||| b ||| c ||| d ||| e ||| f).testBit 2
    · rfl
    · rw [hh] at h; simp at h
  simp only [or_bit] at h'
  obtain ⟨⟨⟨⟨⟨s1, s2⟩, s3⟩, s4⟩, s5⟩, s6⟩ := h'
  refine ⟨fun q => ?_, fun q => ?_, fun q => ?_, fun q => ?_, fun q => ?_, fun q => ?_⟩ <;> subst q <;> first | exact absurd s1 (by decide) | exact absurd s2 (by decide) | exact absurd s3 (by decide) | exact absurd s4 (by decide) | exact absurd s5 (by decide) | exact absurd s6 (by decide)

theorem sumW_lt (F : Fm) {m : Int} (hm : 1 ≤ m ∧ m ≤ 5) (d : Dy) : (sumW F m d).1 < 2 * F.sg := by
  have hi := fm_i0 F
  unfold sumW; split
  · unfold Fm.sgn; simp only; split <;> omega
  · obtain ⟨s, n, e, h1, _⟩ := rndW_key F hm.1 hm.2 d
    rw [e]; exact word_lt n h1
theorem addP_facts (F : Fm) {m : Int} (hm : 1 ≤ m ∧ m ≤ 5) (c : Int) (n : Bool) (d : Dy) (c' : Int) (n' : Bool) (d' : Dy) : (addP F m c n d c' n' d').1 < 2 * F.sg ∧ Fl (addP F m c n d c' n' d').2 := by
  have hi := fm_i0 F
  have k : ∀ n, F.inf n < 2 * F.sg ∧ F.sgn n < 2 * F.sg := fun n => by cases F <;> cases n <;> decide
  unfold addP Fl
  by_cases h1 : c = 5 ∨ c' = 5
  · rw [if_pos h1]; exact ⟨(nan_facts F).1, by simp⟩
  · rw [if_neg h1]
    by_cases h2 : c = 4 ∧ c' = 4 ∧ n ≠ n'
    · rw [if_pos h2]; exact ⟨(nan_facts F).1, by simp⟩
    · rw [if_neg h2]
      by_cases h3 : c = 4
      · rw [if_pos h3]; exact ⟨(k n).1, by simp⟩
      · rw [if_neg h3]
        by_cases h4 : c' = 4
        · rw [if_pos h4]; exact ⟨(k n').1, by simp⟩
        · rw [if_neg h4]
          by_cases h5 : c = 1 ∧ c' = 1 ∧ n = n'
          · rw [if_pos h5]; exact ⟨(k n).2, by simp⟩
          · rw [if_neg h5]
            refine ⟨sumW_lt F hm _, ?_⟩
            have := sum_flag F m (addD d d')
            omega

set_option maxHeartbeats 8000000 in
theorem law05_SoftTwoSum (hA : HasA g T) (hB : HasB g T) (hC : HasC g T) (hG : Glob G g) (hD : HasD g T) (hE : HasE g T) (hF : HasF g T) (hU : HasG g T) (hV : HasH g T) (hW : HasJ g T) (hK : run G T 163 [] = some (.bool true))
    {f : Int} {a b : Nat} (ha : a < 18446744073709551616) (hb : b < 18446744073709551616) :
    run G T 239 [.int .u8 f, .int .u64 (a : Int), .int .u64 (b : Int)] = some (.bool true) := by
  rw [run_k G T hW.law05_SoftTwoSum]
  rcases law05_finite2 (G := G) (T := T) (f := f) hD hE hF hU hV ha hb with h1 | ⟨F, rfl, ⟨k1, k2⟩, ⟨fa, fb⟩, h1⟩
  · repeat' (first | (simp (maxSteps := 1000000) only [evB, if_true, if_false, ne_eq, Nat.reduceEqDiff, Nat.reduceAdd, reduceCtorEq, Int.reduceLE, Int.reduceLT, Int.reduceEq, Int.reduceNeg, Int.reduceToNat, Int.reducePow, Int.reduceMod, Int.reduceDiv, Int.reduceSub, Int.reduceAdd, Int.reduceMul, Nat.reduceMul, Nat.reduceSub, Nat.reducePow, exB, resC_ptr, res_cell, nilb, nilf, faddr_p, c_law05_SoftTwoSum, h1, hK]) | (simp (maxSteps := 1000000) (disch := first | with_reducible assumption | omega) only [dxB]) | (simp only [kI_d, kG_dt, kG_df]; split) | (simp only [kI_v, kG_vt, kG_vf]; split))
  · have hadd := fun (x y : Nat) (hx : x < 2 * F.sg) (hy : y < 2 * F.sg) => soft_Add (G := G) (T := T) hA hG hC hD hE hU F (md := 1) (by omega) hx hy
    have hsub := fun (x y : Nat) (hx : x < 2 * F.sg) (hy : y < 2 * F.sg) => soft_Sub (G := G) (T := T) hA hG hC hD hE hU F (md := 1) (by omega) hx hy
    have ladd := fun (x y : Nat) => addP_facts F (m := 1) (by omega) (F.cls x) (F.ng x) (F.vl x) (F.cls y) (F.ng y) (F.vl y)
    have lsub := fun (x y : Nat) => addP_facts F (m := 1) (by omega) (F.cls x) (F.ng x) (F.vl x) (F.cls y) (!F.ng y) (negD (F.vl y))
    obtain ⟨s, x1, es⟩ : ∃ y x, addW F 1 a b = (y, x) := ⟨_, _, rfl⟩
    have s1 := ladd a b
    have s2 := hadd a b k1 k2
    rw [show addP F 1 (F.cls a) (F.ng a) (F.vl a) (F.cls b) (F.ng b) (F.vl b) = addW F 1 a b from rfl, es] at s1
    rw [es] at s2
    obtain ⟨v, x2, ev⟩ : ∃ y x, subW F 1 s b = (y, x) := ⟨_, _, rfl⟩
    have v1 := lsub s b
    have v2 := hsub s b s1.1 k2
    rw [show addP F 1 (F.cls s) (F.ng s) (F.vl s) (F.cls b) (!F.ng b) (negD (F.vl b)) = subW F 1 s b from rfl, ev] at v1
    rw [ev] at v2
    obtain ⟨q, x3, eq⟩ : ∃ y x, subW F 1 s v = (y, x) := ⟨_, _, rfl⟩
    have q1 := lsub s v
    have q2 := hsub s v s1.1 v1.1
    rw [show addP F 1 (F.cls s) (F.ng s) (F.vl s) (F.cls v) (!F.ng v) (negD (F.vl v)) = subW F 1 s v from rfl, eq] at q1
    rw [eq] at q2
    obtain ⟨r, x4, er⟩ : ∃ y x, subW F 1 a v = (y, x) := ⟨_, _, rfl⟩
    have r1 := lsub a v
    have r2 := hsub a v k1 v1.1
    rw [show addP F 1 (F.cls a) (F.ng a) (F.vl a) (F.cls v) (!F.ng v) (negD (F.vl v)) = subW F 1 a v from rfl, er] at r1
    rw [er] at r2
    obtain ⟨t, x5, et⟩ : ∃ y x, subW F 1 b q = (y, x) := ⟨_, _, rfl⟩
    have t1 := lsub b q
    have t2 := hsub b q k2 q1.1
    rw [show addP F 1 (F.cls b) (F.ng b) (F.vl b) (F.cls q) (!F.ng q) (negD (F.vl q)) = subW F 1 b q from rfl, et] at t1
    rw [et] at t2
    obtain ⟨u, x6, eu⟩ : ∃ y x, addW F 1 r t = (y, x) := ⟨_, _, rfl⟩
    have u1 := ladd r t
    have u2 := hadd r t r1.1 t1.1
    rw [show addP F 1 (F.cls r) (F.ng r) (F.vl r) (F.cls t) (F.ng t) (F.vl t) = addW F 1 r t from rfl, eu] at u1
    rw [eu] at u2
    have hbit := or6_bit s1.2 v1.2 q1.2 r1.2 t1.2 u1.2
    clear hadd hsub ladd lsub
    simp only at s1 v1 q1 r1 t1 u1 s2 v2 q2 r2 t2 u2 hbit
    by_cases hX : 0 < andI .u8 (orI .u8 (orI .u8 (orI .u8 (orI .u8 (orI .u8 (x1 : Int) (x2 : Int)) (x3 : Int)) (x4 : Int)) (x5 : Int)) (x6 : Int)) 4
    · clear hbit es ev eq er et eu
      repeat' (first | (simp (maxSteps := 1000000) only [evB, if_true, if_false, ne_eq, Nat.reduceEqDiff, Nat.reduceAdd, reduceCtorEq, Int.reduceLE, Int.reduceLT, Int.reduceEq, Int.reduceNeg, Int.reduceToNat, Int.reducePow, Int.reduceMod, Int.reduceDiv, Int.reduceSub, Int.reduceAdd, Int.reduceMul, Nat.reduceMul, Nat.reduceSub, Nat.reducePow, exB, resC_ptr, res_cell, nilb, nilf, faddr_p, c_law05_SoftTwoSum, h1, s2, v2, q2, r2, t2, u2, hX, hK]) | (simp (maxSteps := 1000000) (disch := first | with_reducible assumption | omega) only [dxB]) | (simp only [kI_d, kG_dt, kG_df]; split) | (simp only [kI_v, kG_vt, kG_vf]; split))
    · have hb6 := hbit hX
      rcases law05_finite6 (G := G) (T := T) hD hE hF hU hV F s1.1 v1.1 q1.1 r1.1 t1.1 u1.1 with h2 | ⟨⟨fs, _, _, _, _, fu⟩, h2⟩
      · unfold im6 at h2
        clear hbit es ev eq er et eu
        repeat' (first | (simp (maxSteps := 1000000) only [evB, if_true, if_false, ne_eq, Nat.reduceEqDiff, Nat.reduceAdd, reduceCtorEq, Int.reduceLE, Int.reduceLT, Int.reduceEq, Int.reduceNeg, Int.reduceToNat, Int.reducePow, Int.reduceMod, Int.reduceDiv, Int.reduceSub, Int.reduceAdd, Int.reduceMul, Nat.reduceMul, Nat.reduceSub, Nat.reducePow, exB, resC_ptr, res_cell, nilb, nilf, faddr_p, c_law05_SoftTwoSum, h1, s2, v2, q2, r2, t2, u2, hX, fi6, h2, hK]) | (simp (maxSteps := 1000000) (disch := first | with_reducible assumption | omega) only [dxB]) | (simp only [kI_d, kG_dt, kG_df]; split) | (simp only [kI_v, kG_vt, kG_vf]; split))
      · unfold im6 at h2
        have hsum := two_sum_w F k1 k2 fa fb (by rw [es]) (by rw [ev]) (by rw [eq]) (by rw [er]) (by rw [et]) (by rw [eu]) (by rw [es]; exact hb6.1) (by rw [ev]; exact hb6.2.1) (by rw [eq]; exact hb6.2.2.1) (by rw [er]; exact hb6.2.2.2.1) (by rw [et]; exact hb6.2.2.2.2.1) (by rw [eu]; exact hb6.2.2.2.2.2)
        obtain ⟨z1, w1⟩ := ref03_Value (G := G) (T := T) hA hB hC hD hF F ha fa
        obtain ⟨z2, w2⟩ := ref03_Value (G := G) (T := T) hA hB hC hD hF F hb fb
        obtain ⟨z3, w3⟩ := ref03_Value (G := G) (T := T) hA hB hC hD hF F (sg_64 s1.1) fs
        obtain ⟨z4, w4⟩ := ref03_Value (G := G) (T := T) hA hB hC hD hF F (sg_64 u1.1) fu
        rw [← vl_val fa] at w1
        rw [← vl_val fb] at w2
        rw [← vl_val fs] at w3
        rw [← vl_val fu] at w4
        obtain ⟨z5, d1⟩ := ref02_Add (G := G) (T := T) hB hC (z := z1) (y := z2) ((Bd_vl F a).mono (by decide)) ((Bd_vl F b).mono (by decide))
        obtain ⟨z6, d2⟩ := ref02_Add (G := G) (T := T) hB hC (z := z3) (y := z4) ((Bd_vl F s).mono (by decide)) ((Bd_vl F u).mono (by decide))
        rw [hsum] at d2
        have hbs := (Bd_add (Bd_vl F a) (Bd_vl F b)).bl
        have hls := dl_len_blen (addD (F.vl a) (F.vl b)).m
        have hs := same_dy (G := G) (T := T) hB hC (z := z6) (y := z5) (a := addD (F.vl a) (F.vl b)) (b := addD (F.vl a) (F.vl b)) (by omega)
        rw [decide_eq_true (show sameD (addD (F.vl a) (F.vl b)) (addD (F.vl a) (F.vl b)) from ⟨rfl, rfl, rfl⟩)] at hs
        clear hbit es ev eq er et eu hsum hbs hls
        generalize addD (F.vl a) (F.vl b) = d at *
        generalize F.vl a = da at *
        generalize F.vl b = db at *
        generalize F.vl s = ds at *
        generalize F.vl u = du at *
        simp only [DyA, A3] at *
        repeat' (first | (simp (maxSteps := 1000000) only [evB, if_true, if_false, ne_eq, Nat.reduceEqDiff, Nat.reduceAdd, reduceCtorEq, Int.reduceLE, Int.reduceLT, Int.reduceEq, Int.reduceNeg, Int.reduceToNat, Int.reducePow, Int.reduceMod, Int.reduceDiv, Int.reduceSub, Int.reduceAdd, Int.reduceMul, Nat.reduceMul, Nat.reduceSub, Nat.reducePow, exB, resC_ptr, res_cell, nilb, nilf, faddr_p, c_law05_SoftTwoSum, h1, s2, v2, q2, r2, t2, u2, hX, fi6, h2, w1, w2, w3, w4, d1, d2, hs, hK]) | (simp (maxSteps := 1000000) (disch := first | with_reducible assumption | omega) only [dxB]) | (simp only [kI_d, kG_dt, kG_df]; split) | (simp only [kI_v, kG_vt, kG_vf]; split))
end Go.Cv
