/-
  A part of the proof of the statements of this seat (texts that the law's own text leans on): no condition.
-/
import Derived.Test.YtmjcmppbmolmnaaDoorM4
import Derived.Test.YtmjcmppbmolmnaaDoorM3
set_option linter.unusedVariables false
set_option linter.unusedSimpArgs false
/-
  Rounding: the word of a size.
-/
namespace Go.Cv
variable {G : Nat → Option (List AV)} {T : Tbl} {g : Nat}

theorem fm_facts (F : Fm) : (F.fr = 23 ∧ F.low = -149 ∧ F.wide = 128) ∨ (F.fr = 52 ∧ F.low = -1074 ∧ F.wide = 1024) := by
  cases F
  · exact Or.inl ⟨rfl, rfl, rfl⟩
  · exact Or.inr ⟨rfl, rfl, rfl⟩
/-- The word, and the flags, of a size that is told by its first 64 bits. -/
def partW (F : Fm) (md : Int) (neg : Bool) (w : Nat) (more : Bool) (top : Int) : Nat × Nat :=
  wordOf F md neg (rdN md neg w more (F.eOf top - top + 64).toNat).1 (rdN md neg w more (F.eOf top - top + 64).toNat).2 (F.eOf top) top (rdN md neg w more (63 - F.fr)).1

set_option maxHeartbeats 4000000 in
theorem round_word (hA : HasA g T) (hC : HasC g T) (hG : Glob G g) (hD : HasD g T) (hT : HasE g T) (F : Fm) {m : Int} (hm : 1 ≤ m ∧ m ≤ 5) {neg more : Bool} {w : Nat} {top : Int} (hw : blen w = 64) (ht : -549755813888 < top ∧ top < 549755813888) :
    run G T 24 [partA w top more, .int .u8 F.u, fmA F, .int .u8 m, .bool neg] = some (.tup [.int .u64 ((partW F m neg w more top).1 : Int), .int .u8 ((partW F m neg w more top).2 : Int)]) := by
  rw [run_k G T hT.round_part_word]
  have hF := fm_facts F
  have hE : max (top - ((F.fr : Int) + 1)) F.low = F.eOf top := by unfold Fm.eOf; omega
  have u1 := round_units (G := G) hT (m := m) (neg := neg) (more := more) (w := w) (k := (F.eOf top - top + 64).toNat) (e := F.eOf top) (top := top) hw (by omega) (by omega) (by omega) (by omega)
  have u2 := round_units (G := G) hT (m := m) (neg := neg) (more := more) (w := w) (k := 63 - F.fr) (e := top - ((F.fr : Int) + 1)) (top := top) hw (by omega) (by omega) (by omega) (by omega)
  have b1 := rdN_bd (md := m) (neg := neg) (more := more) hw (k := (F.eOf top - top + 64).toNat) (p := F.fr + 1) (by omega)
  have b2 := rdN_bd (md := m) (neg := neg) (more := more) hw (k := 63 - F.fr) (p := F.fr + 1) (by omega)
  have l1 : F.eOf top = F.low ∨ 2 ^ F.fr ≤ (rdN m neg w more (F.eOf top - top + 64).toNat).1 := by
    by_cases h : F.eOf top = F.low
    · exact Or.inl h
    · right
      have := rdN_lo (md := m) (neg := neg) (more := more) hw (k := (F.eOf top - top + 64).toNat) (by omega)
      rwa [show 63 - (F.eOf top - top + 64).toNat = F.fr by omega] at this
  have hp : 2 ^ (F.fr + 1) ≤ 9007199254740992 := by cases F <;> decide
  have o1 := round_Over (G := G) hD hT F hm (neg := neg)
  unfold partW
  generalize (F.eOf top - top + 64).toNat = k at *
  obtain ⟨n, ex, hR⟩ : ∃ n ex, rdN m neg w more k = (n, ex) := ⟨_, _, rfl⟩
  obtain ⟨fine, ex2, hR2⟩ : ∃ n ex, rdN m neg w more (63 - F.fr) = (n, ex) := ⟨_, _, rfl⟩
  rw [hR] at u1 b1 l1 ⊢
  rw [hR2] at u2 b2 ⊢
  simp only at *
  have c1 := bits_Len64 (G := G) (T := T) hA (x := n) (by omega)
  have c2 := bits_Len64 (G := G) (T := T) hA (x := fine) (by omega)
  have q1 : blen n ≤ 54 := blen_le.2 (by omega)
  have q2 : blen fine ≤ 54 := blen_le.2 (by omega)
  obtain ⟨z1, f1⟩ := nat_Of (G := G) (T := T) hA (n := n) (by omega)
  by_cases hov : F.wide < blen n + F.eOf top
  · simp only [wordOf, if_pos hov]
    simp only [partA, fmA] at *
    repeat' (first | (simp (maxSteps := 1000000) only [evB, if_true, if_false, ne_eq, Nat.reduceEqDiff, Nat.reduceAdd, reduceCtorEq, Int.reduceLE, Int.reduceLT, Int.reduceEq, Int.reduceNeg, Int.reduceToNat, Int.reducePow, Int.reduceMod, Int.reduceDiv, Int.reduceSub, Int.reduceAdd, Int.reduceMul, Nat.reduceMul, Nat.reduceSub, Nat.reducePow, exB, resC_ptr, res_cell, nilb, nilf, faddr_p, c_round_part_word, hE, u1, c1, o1]) | (simp (maxSteps := 1000000) (disch := first | with_reducible assumption | omega) only [wrap_i64, iaddr_D, rd_iptr, toNat_sub_one, toNat_add_one, sl_hi, sl_lo, iaddr_own, kM_new, sub_cells, setO_cells, sub_pre, ct_fz1, dec_t, dec_f, bv_t, bv_f, tmod_nn, tdiv_nn, bin_shl, bin_shr]) | (simp only [kI_d, kG_dt, kG_df]; split) | (simp only [kI_v, kG_vt, kG_vf]; split))
  · by_cases hn : n = 0
    · subst hn
      have hlow : F.eOf top = F.low := by
        rcases l1 with h | h
        · exact h
        · have := Nat.two_pow_pos F.fr; omega
      obtain ⟨z2, f2⟩ := dyad_Make (G := G) (T := T) hA hG hC (n := neg) (z := z1) (a := 0) (e := F.eOf top) (mayL_small (by rw [blen_zero]; omega)) (Or.inl rfl) (by omega)
      rw [mkD_zero] at f2
      have f3 := word_Of_zero (G := G) (T := T) hA hC hD F (z := z2)
      have f4 := word_Zero (G := G) (T := T) hD F (n := neg)
      have e0 : F.enc 0 (F.eOf top) = 0 := by rw [hlow]; simp [Fm.enc]
      simp only [wordOf, if_neg hov, e0, Nat.zero_add]
      simp only [partA, fmA, DyA, A3, cast0] at *
      cases ex
      · repeat' (first | (simp (maxSteps := 1000000) only [evB, if_true, if_false, ne_eq, Nat.reduceEqDiff, Nat.reduceAdd, reduceCtorEq, Int.reduceLE, Int.reduceLT, Int.reduceEq, Int.reduceNeg, Int.reduceToNat, Int.reducePow, Int.reduceMod, Int.reduceDiv, Int.reduceSub, Int.reduceAdd, Int.reduceMul, Nat.reduceMul, Nat.reduceSub, Nat.reducePow, exB, resC_ptr, res_cell, nilb, nilf, faddr_p, c_round_part_word, hE, u1, c1, c2, u2, f1, f2, f3, f4]) | (simp (maxSteps := 1000000) (disch := first | with_reducible assumption | omega) only [wrap_i64, iaddr_D, rd_iptr, toNat_sub_one, toNat_add_one, sl_hi, sl_lo, iaddr_own, kM_new, sub_cells, setO_cells, sub_pre, ct_fz1, dec_t, dec_f, bv_t, bv_f, tmod_nn, tdiv_nn, bin_shl, bin_shr]) | (simp only [kI_d, kG_dt, kG_df]; split) | (simp only [kI_v, kG_vt, kG_vf]; split))
        all_goals simp_all
        all_goals (split <;> omega)
      · repeat' (first | (simp (maxSteps := 1000000) only [evB, if_true, if_false, ne_eq, Nat.reduceEqDiff, Nat.reduceAdd, reduceCtorEq, Int.reduceLE, Int.reduceLT, Int.reduceEq, Int.reduceNeg, Int.reduceToNat, Int.reducePow, Int.reduceMod, Int.reduceDiv, Int.reduceSub, Int.reduceAdd, Int.reduceMul, Nat.reduceMul, Nat.reduceSub, Nat.reducePow, exB, resC_ptr, res_cell, nilb, nilf, faddr_p, c_round_part_word, hE, u1, c1, c2, u2, f1, f2, f3, f4]) | (simp (maxSteps := 1000000) (disch := first | with_reducible assumption | omega) only [wrap_i64, iaddr_D, rd_iptr, toNat_sub_one, toNat_add_one, sl_hi, sl_lo, iaddr_own, kM_new, sub_cells, setO_cells, sub_pre, ct_fz1, dec_t, dec_f, bv_t, bv_f, tmod_nn, tdiv_nn, bin_shl, bin_shr]) | (simp only [kI_d, kG_dt, kG_df]; split) | (simp only [kI_v, kG_vt, kG_vf]; split))
        all_goals simp_all
    · have htz := tz_blen hn
      obtain ⟨z2, f2⟩ := dyad_Make (G := G) (T := T) hA hG hC (n := neg) (z := z1) (a := n) (e := F.eOf top) (mayL_small (by omega)) (Or.inr (by omega)) (by omega)
      have hft := mkD_fits (F := F) (neg := neg) hn b1 (by omega : F.low ≤ F.eOf top) (by omega)
      have f3 := word_Of (G := G) (T := T) hA hC hD F (z := z2) (mayD_mk (n := neg) (m := n) (e := F.eOf top) (by omega) (Or.inr (by omega))) hft
      rw [mkD_enc hn b1 (by omega) l1] at f3
      have hsn : (mkD neg n (F.eOf top)).n = neg := by rw [mkD_pos hn]
      rw [hsn] at f3
      simp only [wordOf, if_neg hov]
      have hn' : ¬ (n : Int) = 0 := by omega
      simp only [partA, fmA, DyA, A3] at *
      cases ex
      · repeat' (first | (simp (maxSteps := 1000000) only [evB, if_true, if_false, ne_eq, Nat.reduceEqDiff, Nat.reduceAdd, reduceCtorEq, Int.reduceLE, Int.reduceLT, Int.reduceEq, Int.reduceNeg, Int.reduceToNat, Int.reducePow, Int.reduceMod, Int.reduceDiv, Int.reduceSub, Int.reduceAdd, Int.reduceMul, Nat.reduceMul, Nat.reduceSub, Nat.reducePow, exB, resC_ptr, res_cell, nilb, nilf, faddr_p, c_round_part_word, hE, u1, c1, c2, u2, f1, f2, f3, hn']) | (simp (maxSteps := 1000000) (disch := first | with_reducible assumption | omega) only [wrap_i64, iaddr_D, rd_iptr, toNat_sub_one, toNat_add_one, sl_hi, sl_lo, iaddr_own, kM_new, sub_cells, setO_cells, sub_pre, ct_fz1, dec_t, dec_f, bv_t, bv_f, tmod_nn, tdiv_nn, bin_shl, bin_shr]) | (simp only [kI_d, kG_dt, kG_df]; split) | (simp only [kI_v, kG_vt, kG_vf]; split))
        all_goals simp_all
        all_goals (split <;> omega)
      · repeat' (first | (simp (maxSteps := 1000000) only [evB, if_true, if_false, ne_eq, Nat.reduceEqDiff, Nat.reduceAdd, reduceCtorEq, Int.reduceLE, Int.reduceLT, Int.reduceEq, Int.reduceNeg, Int.reduceToNat, Int.reducePow, Int.reduceMod, Int.reduceDiv, Int.reduceSub, Int.reduceAdd, Int.reduceMul, Nat.reduceMul, Nat.reduceSub, Nat.reducePow, exB, resC_ptr, res_cell, nilb, nilf, faddr_p, c_round_part_word, hE, u1, c1, c2, u2, f1, f2, f3, hn']) | (simp (maxSteps := 1000000) (disch := first | with_reducible assumption | omega) only [wrap_i64, iaddr_D, rd_iptr, toNat_sub_one, toNat_add_one, sl_hi, sl_lo, iaddr_own, kM_new, sub_cells, setO_cells, sub_pre, ct_fz1, dec_t, dec_f, bv_t, bv_f, tmod_nn, tdiv_nn, bin_shl, bin_shr]) | (simp only [kI_d, kG_dt, kG_df]; split) | (simp only [kI_v, kG_vt, kG_vf]; split))
        all_goals simp_all
end Go.Cv

/-
  Rounding: the word of a number.
-/
namespace Go.Cv
variable {G : Nat → Option (List AV)} {T : Tbl} {g : Nat}

theorem partW_eq (F : Fm) (md : Int) {d : Dy} (h : d.m ≠ 0) : partW F md d.n (headN d.m) (behindN d.m) (d.e + blen d.m) = rndW F md d := by
  have hF := fm_facts F
  have e1 := rdN_part md d.n h d.e (F.eOf (d.e + blen d.m)) (by unfold Fm.eOf; omega)
  have e2 := rdN_part md d.n h d.e (d.e + blen d.m - F.fr - 1) (by omega)
  rw [show (d.e + (blen d.m : Int) - F.fr - 1 - (d.e + blen d.m) + 64).toNat = 63 - F.fr by omega] at e2
  simp only [partW, rndW, if_neg h, headN, behindN, e1, e2]

theorem sign_may {n : Bool} {m : Nat} {e : Int} (h : mayD n (dl m) e = true) : (if mayD n (dl m) e = false ∨ (dl m).length = 0 then (0 : Int) else if n then -1 else 1) = if m = 0 then 0 else if n then -1 else 1 := by
  simp [h, dl_eq_nil]

theorem mayD_facts {n : Bool} {l : List Nat} {e : Int} (h : mayD n l e = true) : mayL l = true ∧ (l.length = 0 → n = false ∧ e = 0) ∧ (l.length ≠ 0 → dg l 0 % 2 = 1) ∧ -16777216 ≤ e ∧ e ≤ 16777216 := by
  simp only [mayD, Bool.and_eq_true] at h
  obtain ⟨h1, h2⟩ := h
  refine ⟨h1, ?_⟩
  by_cases h0 : l.length = 0
  · rw [if_pos h0] at h2
    simp only [Bool.and_eq_true, Bool.not_eq_true', decide_eq_true_eq] at h2
    exact ⟨fun _ => h2, fun h => absurd h0 h, by omega, by omega⟩
  · rw [if_neg h0] at h2
    simp only [Bool.and_eq_true, decide_eq_true_eq] at h2
    exact ⟨fun h => absurd h h0, fun _ => h2.1, h2.2.1, h2.2.2⟩

theorem round_Round (hA : HasA g T) (hC : HasC g T) (hG : Glob G g) (hD : HasD g T) (hT : HasE g T) (F : Fm) {m : Int} (hm : 1 ≤ m ∧ m ≤ 5) {z : Bool} {d : Dy} (hd : mayD d.n (dl d.m) d.e = true) :
    run G T 7 [.int .u8 F.u, .int .u8 m, DyA z d] = some (.tup [.int .u64 ((rndW F m d).1 : Int), .int .u8 ((rndW F m d).2 : Int), .int .i64 0]) := by
  rw [run_k G T hT.round_Round]
  obtain ⟨f1, f2, f3, f4, f5⟩ := mayD_facts hd
  have o1 := round_open1 (G := G) hA hC hT F hm (n := d.n) (z := z) (Dg_dl d.m) (e := d.e)
  rw [hd, if_pos rfl] at o1
  have s1 := dyad_Sign (G := G) hA hC (n := d.n) (z := z) (Dg_dl d.m) (e := d.e)
  rw [sign_may hd] at s1
  by_cases h0 : d.m = 0
  · rw [if_pos h0] at s1
    simp only [rndW, if_pos h0]
    simp only [DyA, A3, fmA] at *
    repeat' (first | (simp (maxSteps := 1000000) only [evB, if_true, if_false, ne_eq, Nat.reduceEqDiff, Nat.reduceAdd, reduceCtorEq, Int.reduceLE, Int.reduceLT, Int.reduceEq, Int.reduceNeg, Int.reduceToNat, Int.reducePow, Int.reduceMod, Int.reduceDiv, Int.reduceSub, Int.reduceAdd, Int.reduceMul, Nat.reduceMul, Nat.reduceSub, Nat.reducePow, exB, resC_ptr, res_cell, nilb, nilf, faddr_p, c_round_Round, o1, s1]) | (simp (maxSteps := 1000000) (disch := first | with_reducible assumption | omega) only [wrap_i64, iaddr_D, rd_iptr, toNat_sub_one, toNat_add_one, sl_hi, sl_lo, iaddr_own, kM_new, sub_cells, setO_cells, sub_pre, ct_fz1, dec_t, dec_f, bv_t, bv_f, tmod_nn, tdiv_nn, bin_shl, bin_shr]) | (simp only [kI_d, kG_dt, kG_df]; split) | (simp only [kI_v, kG_vt, kG_vf]; split))
    all_goals rfl
  · have hb := may_blen f1
    have p1 := round_partOf (G := G) hA hG hT (z := z) f1 h0 (by omega)
    have w1 := round_word (G := G) hA hC hG hD hT F hm (neg := d.n) (more := behindN d.m) (w := headN d.m) (top := d.e + blen d.m) (headN_blen h0) (by omega)
    rw [partW_eq F m h0] at w1
    rw [if_neg h0] at s1
    cases hn : d.n <;> (
      simp only [DyA, A3, fmA, partA, hn, Bool.false_eq_true, if_true, if_false] at *
      repeat' (first | (simp (maxSteps := 1000000) only [evB, if_true, if_false, ne_eq, Nat.reduceEqDiff, Nat.reduceAdd, reduceCtorEq, Int.reduceLE, Int.reduceLT, Int.reduceEq, Int.reduceNeg, Int.reduceToNat, Int.reducePow, Int.reduceMod, Int.reduceDiv, Int.reduceSub, Int.reduceAdd, Int.reduceMul, Nat.reduceMul, Nat.reduceSub, Nat.reducePow, exB, resC_ptr, res_cell, nilb, nilf, faddr_p, c_round_Round, o1, s1, p1, w1]) | (simp (maxSteps := 1000000) (disch := first | with_reducible assumption | omega) only [wrap_i64, iaddr_D, rd_iptr, toNat_sub_one, toNat_add_one, sl_hi, sl_lo, iaddr_own, kM_new, sub_cells, setO_cells, sub_pre, ct_fz1, dec_t, dec_f, bv_t, bv_f, tmod_nn, tdiv_nn, bin_shl, bin_shr]) | (simp only [kI_d, kG_dt, kG_df]; split) | (simp only [kI_v, kG_vt, kG_vf]; split)))

end Go.Cv

/-
  Dyadic numbers as whole numbers of a common unit.
-/
namespace Go.Cv

def LoE (d : Dy) (L : Int) : Prop := d.m = 0 ∨ L ≤ d.e
theorem LoE.mono {d : Dy} {L L' : Int} (h : LoE d L) (hl : L' ≤ L) : LoE d L' := h.imp id (by omega)
end Go.Cv

/-
  The document's rounding: what is taken of a number.
-/
namespace Go.Cv
variable {G : Nat → Option (List AV)} {T : Tbl} {g : Nat}

theorem ref04_Is (hT : HasE g T) {m : Int} : run G T 28 [.int .u8 m] = some (.bool (decide (1 ≤ m ∧ m ≤ 5))) := by
  rw [run_k G T hT.ref04_Is]
  repeat' (first | (simp (maxSteps := 1000000) only [evB, if_true, if_false, ne_eq, Nat.reduceEqDiff, Nat.reduceAdd, reduceCtorEq, Int.reduceLE, Int.reduceLT, Int.reduceEq, Int.reduceNeg, Int.reduceToNat, Int.reducePow, Int.reduceMod, Int.reduceDiv, Int.reduceSub, Int.reduceAdd, Int.reduceMul, Nat.reduceMul, Nat.reduceSub, Nat.reducePow, exB, resC_ptr, res_cell, nilb, nilf, faddr_p, c_ref04_Is]) | (simp (maxSteps := 1000000) (disch := first | with_reducible assumption | omega) only [wrap_i64, iaddr_D, rd_iptr, toNat_sub_one, toNat_add_one, sl_hi, sl_lo, iaddr_own, kM_new, sub_cells, setO_cells, sub_pre, ct_fz1, dec_t, dec_f, bv_t, bv_f, tmod_nn, tdiv_nn, bin_shl, bin_shr]) | (simp only [kI_d, kG_dt, kG_df]; split) | (simp only [kI_v, kG_vt, kG_vf]; split))
  all_goals simp_all
def sameD (a b : Dy) : Prop := a.n = b.n ∧ a.e = b.e ∧ a.m = b.m
instance (a b : Dy) : Decidable (sameD a b) := inferInstanceAs (Decidable (_ ∧ _ ∧ _))
theorem Bd.mono {d : Dy} {K L : Nat} (h : Bd d K) (hl : K ≤ L) : Bd d L := ⟨by have := h.bl; omega, by have := h.lo; omega, by have := h.hi; omega⟩
theorem Bd_mk {n : Bool} {m : Nat} {e : Int} {K : Nat} (h1 : blen m ≤ K) (h2 : -(K : Int) ≤ e) (h3 : e + blen m ≤ K) : Bd (mkD n m e) K := by
  by_cases h : m = 0
  · subst h; rw [mkD_zero]; exact ⟨by simp only [blen_zero]; omega, by simp only; omega, by simp only; omega⟩
  · rw [mkD_pos h]
    have := tz_blen h
    exact ⟨by simp only [blen_div]; omega, by simp only; omega, by simp only; omega⟩
theorem Bd_add {a b : Dy} {K : Nat} (ha : Bd a K) (hb : Bd b K) : Bd (addD a b) (4 * K + 1) := by
  obtain ⟨a1, a2, a3⟩ := ha
  obtain ⟨b1, b2, b3⟩ := hb
  unfold addD
  have x1 := blen_mul_le a.m (a.e - min a.e b.e).toNat
  have x2 := blen_mul_le b.m (b.e - min a.e b.e).toNat
  generalize a.m * 2 ^ (a.e - min a.e b.e).toNat = A at *
  generalize b.m * 2 ^ (b.e - min a.e b.e).toNat = B at *
  have s1 := blen_add_le A B
  have s2 := blen_mono (Nat.sub_le A B)
  have s3 := blen_mono (Nat.sub_le B A)
  split
  · exact ⟨by omega, by omega, by omega⟩
  · split
    · exact ⟨by omega, by omega, by omega⟩
    · split
      · exact Bd_mk (by omega) (by omega) (by omega)
      · split
        · exact Bd_mk (by omega) (by omega) (by omega)
        · exact Bd_mk (by omega) (by omega) (by omega)
end Go.Cv

/-
  The document's rounding: what is taken of a number, step by step.
-/
namespace Go.Cv
variable {G : Nat → Option (List AV)} {T : Tbl} {g : Nat}

def lowD (x : Dy) (u : Int) : Dy := shD (floorD (shD x (-u))) u
def evenD (x : Dy) (u : Int) : Prop := sameD (floorD (shD (shD (lowD x u) (-u)) (-1))) (shD (shD (lowD x u) (-u)) (-1))
instance (x : Dy) (u : Int) : Decidable (evenD x u) := inferInstanceAs (Decidable (sameD _ _))
end Go.Cv

/-
  What the document takes of a number is what rounding tells in units.
-/
namespace Go.Cv

/-- In the one form. -/
def Nz (d : Dy) : Prop := (d.m = 0 → d = ⟨false, 0, 0⟩) ∧ (d.m ≠ 0 → d.m % 2 = 1)
theorem Nz_mk (n : Bool) (m : Nat) (e : Int) : Nz (mkD n m e) := by
  by_cases h : m = 0
  · subst h; rw [mkD_zero]; exact ⟨fun _ => rfl, fun h => absurd rfl h⟩
  · have h0 := mkD_m0 (n := n) h e
    refine ⟨fun h1 => absurd h1 h0, fun _ => ?_⟩
    rw [mkD_pos h]; exact (tz_spec h).2
theorem Nz_neg {d : Dy} (h : Nz d) : Nz (negD d) := by
  unfold negD; split
  · exact h
  · next h0 => exact ⟨fun h1 => absurd h1 h0, h.2⟩
theorem Nz_add {a b : Dy} (ha : Nz a) (hb : Nz b) : Nz (addD a b) := by
  unfold addD; split
  · exact hb
  · split
    · exact ha
    · split
      · exact Nz_mk ..
      · split <;> exact Nz_mk ..
end Go.Cv

/-
  The document's rounding: the word of a number.
-/
namespace Go.Cv
variable {G : Nat → Option (List AV)} {T : Tbl} {g : Nat}

end Go.Cv

/-
  The statements' small functions.
-/
namespace Go.Cv
variable {G : Nat → Option (List AV)} {T : Tbl} {g : Nat}

end Go.Cv

/-
  The statement on exact numbers.
-/
namespace Go.Cv
variable {G : Nat → Option (List AV)} {T : Tbl} {g : Nat}

theorem mayD_nz {n : Bool} {m : Nat} {e : Int} (h : mayD n (dl m) e = true) : Nz ⟨n, m, e⟩ := by
  obtain ⟨f1, f2, f3, f4, f5⟩ := mayD_facts h
  refine ⟨fun h0 => ?_, fun h0 => ?_⟩
  · simp only at h0; subst h0
    obtain ⟨a, b⟩ := f2 (by rw [dl_zero]; rfl)
    rw [a, b]
  · have := f3 (by rw [ne_eq, dl_len0]; exact h0)
    rwa [dg0] at this

end Go.Cv

/-
  The document's words: fields, classes, values, steps.
-/
namespace Go.Cv
variable {G : Nat → Option (List AV)} {T : Tbl} {g : Nat}

def Fm.ng (F : Fm) (w : Nat) : Bool := decide (F.sg ≤ w)
def Fm.ex (F : Fm) (w : Nat) : Nat := w % F.sg / 2 ^ F.fr
def Fm.fc (F : Fm) (w : Nat) : Nat := w % F.sg % 2 ^ F.fr
def Fm.cls (F : Fm) (w : Nat) : Int := if F.ex w = 0 then (if F.fc w = 0 then 1 else 2) else if F.ex w < F.most then 3 else if F.fc w = 0 then 4 else 5
def Fm.val (F : Fm) (w : Nat) : Dy := if F.ex w = 0 then mkD (F.ng w) (F.fc w) F.low else mkD (F.ng w) (2 ^ F.fr + F.fc w) (F.ex w - 1 + F.low)
/-- Is it a word of the format? -/
def Fm.ok (F : Fm) (w : Nat) : Prop := w < 2 * F.sg
def Fm.fin (F : Fm) (w : Nat) : Prop := F.ex w < F.most
instance (F : Fm) (w : Nat) : Decidable (F.fin w) := inferInstanceAs (Decidable (_ < _))
instance (F : Fm) (w : Nat) : Decidable (F.ok w) := inferInstanceAs (Decidable (_ < _))

theorem ref03_IsF (hD : HasD g T) (F : Fm) : run G T 27 [.int .u8 F.u] = some (.bool true) := by
  rw [ref03_Is hD]; cases F <;> rfl
theorem ref03_Good (hD : HasD g T) (hT : HasF g T) (F : Fm) {w : Nat} (hw : w < 18446744073709551616) : run G T 149 [.int .u8 F.u, .int .u64 (w : Int)] = some (.int .i64 (if w < 2 * F.sg then 0 else 6)) := by
  rw [run_k G T hT.ref03_Good]
  have h1 := ref03_IsF (G := G) (T := T) hD F
  by_cases hk : w < 2 * F.sg
  · rw [if_pos hk]
    cases F <;> (
      simp only [Fm.u, Fm.sg] at *
      repeat' (first | (simp (maxSteps := 1000000) only [evB, if_true, if_false, ne_eq, Nat.reduceEqDiff, Nat.reduceAdd, reduceCtorEq, Int.reduceLE, Int.reduceLT, Int.reduceEq, Int.reduceNeg, Int.reduceToNat, Int.reducePow, Int.reduceMod, Int.reduceDiv, Int.reduceSub, Int.reduceAdd, Int.reduceMul, Nat.reduceMul, Nat.reduceSub, Nat.reducePow, exB, resC_ptr, res_cell, nilb, nilf, faddr_p, c_ref03_Good, h1]) | (simp (maxSteps := 1000000) (disch := first | with_reducible assumption | omega) only [wrap_i64, iaddr_D, rd_iptr, toNat_sub_one, toNat_add_one, sl_hi, sl_lo, iaddr_own, kM_new, sub_cells, setO_cells, sub_pre, ct_fz1, dec_t, dec_f, bv_t, bv_f, tmod_nn, tdiv_nn, bin_shl, bin_shr]) | (simp only [kI_d, kG_dt, kG_df]; split) | (simp only [kI_v, kG_vt, kG_vf]; split)))
  · rw [if_neg hk]
    cases F <;> (
      simp only [Fm.u, Fm.sg] at *
      repeat' (first | (simp (maxSteps := 1000000) only [evB, if_true, if_false, ne_eq, Nat.reduceEqDiff, Nat.reduceAdd, reduceCtorEq, Int.reduceLE, Int.reduceLT, Int.reduceEq, Int.reduceNeg, Int.reduceToNat, Int.reducePow, Int.reduceMod, Int.reduceDiv, Int.reduceSub, Int.reduceAdd, Int.reduceMul, Nat.reduceMul, Nat.reduceSub, Nat.reducePow, exB, resC_ptr, res_cell, nilb, nilf, faddr_p, c_ref03_Good, h1]) | (simp (maxSteps := 1000000) (disch := first | with_reducible assumption | omega) only [wrap_i64, iaddr_D, rd_iptr, toNat_sub_one, toNat_add_one, sl_hi, sl_lo, iaddr_own, kM_new, sub_cells, setO_cells, sub_pre, ct_fz1, dec_t, dec_f, bv_t, bv_f, tmod_nn, tdiv_nn, bin_shl, bin_shr]) | (simp only [kI_d, kG_dt, kG_df]; split) | (simp only [kI_v, kG_vt, kG_vf]; split)))
    all_goals omega

theorem fld_eq {n n' : Bool} {x x' w w' : Int} (h1 : n = n') (h2 : x = x') (h3 : w = w') : some (AV.agg [.bool n, .int .i64 x, .int .u64 w]) = some (.agg [.bool n', .int .i64 x', .int .u64 w']) := by rw [h1, h2, h3]
theorem ref03_Split (hD : HasD g T) (hT : HasF g T) (F : Fm) {w : Nat} (hw : w < 18446744073709551616) : run G T 156 [.int .u8 F.u, .int .u64 (w : Int)] = some (fldA (F.ng w) (F.ex w) (F.fc w)) := by
  rw [run_k G T hT.ref03_Split]
  have h1 := ref03_Sign (G := G) (T := T) hD F
  have h2 := ref03_Frac (G := G) (T := T) hD F
  cases F <;> (
    simp only [Fm.u, Fm.ng, Fm.ex, Fm.fc, Fm.sg, Fm.fr, fldA, Int.cast_ofNat_Int, Nat.reducePow] at *
    repeat' (first | (simp (maxSteps := 1000000) only [evB, if_true, if_false, ne_eq, Nat.reduceEqDiff, Nat.reduceAdd, reduceCtorEq, Int.reduceLE, Int.reduceLT, Int.reduceEq, Int.reduceNeg, Int.reduceToNat, Int.reducePow, Int.reduceMod, Int.reduceDiv, Int.reduceSub, Int.reduceAdd, Int.reduceMul, Nat.reduceMul, Nat.reduceSub, Nat.reducePow, exB, resC_ptr, res_cell, nilb, nilf, faddr_p, c_ref03_Split, h1, h2]) | (simp (maxSteps := 1000000) (disch := first | with_reducible assumption | omega) only [wrap_i64, iaddr_D, rd_iptr, toNat_sub_one, toNat_add_one, sl_hi, sl_lo, iaddr_own, kM_new, sub_cells, setO_cells, sub_pre, ct_fz1, dec_t, dec_f, bv_t, bv_f, tmod_nn, tdiv_nn, bin_shl, bin_shr]) | (simp only [kI_d, kG_dt, kG_df]; split) | (simp only [kI_v, kG_vt, kG_vf]; split)))
  · exact fld_eq (by congr 1; apply propext; omega) rfl rfl
  · exact fld_eq (by congr 1; apply propext; omega) rfl rfl
theorem ref03_Class (hD : HasD g T) (hT : HasF g T) (F : Fm) {w : Nat} (hw : w < 18446744073709551616) : run G T 155 [.int .u8 F.u, .int .u64 (w : Int)] = some (.int .u8 (F.cls w)) := by
  rw [run_k G T hT.ref03_Class]
  have h1 := ref03_Split (G := G) (T := T) hD hT F hw
  have h2 := ref03_Most (G := G) (T := T) hD F
  unfold Fm.cls
  simp only [fldA] at *
  generalize F.ex w = x at *
  generalize F.fc w = y at *
  repeat' (first | (simp (maxSteps := 1000000) only [evB, if_true, if_false, ne_eq, Nat.reduceEqDiff, Nat.reduceAdd, reduceCtorEq, Int.reduceLE, Int.reduceLT, Int.reduceEq, Int.reduceNeg, Int.reduceToNat, Int.reducePow, Int.reduceMod, Int.reduceDiv, Int.reduceSub, Int.reduceAdd, Int.reduceMul, Nat.reduceMul, Nat.reduceSub, Nat.reducePow, exB, resC_ptr, res_cell, nilb, nilf, faddr_p, c_ref03_Class, h1, h2]) | (simp (maxSteps := 1000000) (disch := first | with_reducible assumption | omega) only [wrap_i64, iaddr_D, rd_iptr, toNat_sub_one, toNat_add_one, sl_hi, sl_lo, iaddr_own, kM_new, sub_cells, setO_cells, sub_pre, ct_fz1, dec_t, dec_f, bv_t, bv_f, tmod_nn, tdiv_nn, bin_shl, bin_shr]) | (simp only [kI_d, kG_dt, kG_df]; split) | (simp only [kI_v, kG_vt, kG_vf]; split))
  all_goals (refine some_int ?_; repeat (first | rw [if_pos (by omega)] | rw [if_neg (by omega)]))
theorem fin_cls (F : Fm) (w : Nat) : F.fin w ↔ F.cls w ≠ 4 ∧ F.cls w ≠ 5 := by
  have hm : 0 < F.most := by cases F <;> decide
  unfold Fm.fin Fm.cls
  generalize F.ex w = x
  generalize F.fc w = y
  repeat' split
  all_goals omega
end Go.Cv

/-
  The document's words: steps; the statements' comparisons of words and numbers.
-/
namespace Go.Cv
variable {G : Nat → Option (List AV)} {T : Tbl} {g : Nat}

/-- One step up, of a word that is no NaN. -/
def Fm.up (F : Fm) (w : Nat) : Nat × Bool := if F.cls w = 4 ∧ F.ng w = false then (0, false) else if F.cls w = 1 then (1, true) else if F.ng w then (w - 1, true) else (w + 1, true)
theorem Bd_val (F : Fm) {w : Nat} (hf : F.fin w) : Bd (F.val w) 4096 := by
  have hm : F.most ≤ 2047 := by cases F <;> decide
  have hy : F.fc w < 2 ^ F.fr := Nat.mod_lt _ (Nat.two_pow_pos _)
  have hp : 2 ^ F.fr ≤ 4503599627370496 := by cases F <;> decide
  have hF := fm_facts F
  unfold Fm.fin at hf
  unfold Fm.val
  generalize F.ex w = x at *
  generalize F.fc w = y at *
  have hb1 : blen y ≤ 53 := blen_le.2 (by omega)
  have hb2 : blen (2 ^ F.fr + y) ≤ 53 := blen_le.2 (by omega)
  split
  · exact Bd_mk (by omega) (by omega) (by omega)
  · exact Bd_mk (by omega) (by omega) (by omega)

section
variable (hA : HasA g T) (hB : HasB g T) (hC : HasC g T) (hD : HasD g T) (hT : HasF g T) (F : Fm)

end
end Go.Cv

/-
  Rounding: what the units are worth; order; words as sizes.
-/
namespace Go.Cv

end Go.Cv

/-
  Words as sizes; what they are worth; what rounding tells, as words.
-/
namespace Go.Cv

theorem sgn_mod {F : Fm} {s : Nat} (n : Bool) (h : s < F.sg) : (s + F.sgn n) % F.sg = s ∧ F.ng (s + F.sgn n) = n := by
  unfold Fm.sgn Fm.ng
  cases n
  · simp only [Bool.false_eq_true, if_false, Nat.add_zero]
    exact ⟨Nat.mod_eq_of_lt h, decide_eq_false (by omega)⟩
  · simp only [if_true]
    exact ⟨by rw [Nat.add_mod_right]; exact Nat.mod_eq_of_lt h, decide_eq_true (by omega)⟩
end Go.Cv

/-
  What rounding tells, as words: the shape of all answers.
-/
namespace Go.Cv

section
variable {F : Fm} {d : Dy} {L : Int} {A U W e0 : Nat} {u : Int} {ex : Bool}
end
end Go.Cv

/-
  Any number lies between the words to which it is rounded down and up.
-/
namespace Go.Cv

section
variable {F : Fm} {md : Int} {d : Dy} {L : Int} {A : Nat}
end

end Go.Cv

/-
  The statement on the words below and above a number.
-/
namespace Go.Cv
variable {G : Nat → Option (List AV)} {T : Tbl} {g : Nat}

end Go.Cv

/-
  Rounding a number with the other sign; rounding a word's own value.
-/
namespace Go.Cv

theorem neg_nm {d : Dy} (h0 : d.m ≠ 0) : negD d = ⟨!d.n, d.m, d.e⟩ := by unfold negD; rw [if_neg h0]
end Go.Cv

/-
  The statement on numbers with the other sign, and on words' own values.
-/
namespace Go.Cv
variable {G : Nat → Option (List AV)} {T : Tbl} {g : Nat}

end Go.Cv

/-
  Quotients: the document's, by one digit.
-/
namespace Go.Cv
variable {G : Nat → Option (List AV)} {T : Tbl} {g : Nat}

end Go.Cv

/-
  Quotients by one digit: both sides' functions.
-/
namespace Go.Cv
variable {G : Nat → Option (List AV)} {T : Tbl} {g : Nat}

end Go.Cv

/-
  Products: the program's.
-/
namespace Go.Cv
variable {G : Nat → Option (List AV)} {T : Tbl} {g : Nat}

theorem val_set {l : List Nat} {j : Nat} (d : Nat) (h : j < l.length) : val (l.set j d) + 4294967296 ^ j * dg l j = val l + 4294967296 ^ j * d := by
  induction l generalizing j with
  | nil => exact absurd h (Nat.not_lt_zero _)
  | cons a l ih =>
    cases j with
    | zero =>
      have e : dg (a :: l) 0 = a := by rw [dg_lt (by simp)]; rfl
      rw [List.set_cons_zero, val_cons, val_cons, e, Nat.pow_zero]; omega
    | succ j =>
      have h2 : j < l.length := by simpa using h
      have e : dg (a :: l) (j + 1) = dg l j := by rw [dg_lt h, dg_lt h2]; rfl
      have := ih h2
      rw [List.set_cons_succ, val_cons, val_cons, e, Nat.pow_succ]
      have e2 : ∀ x, 4294967296 ^ j * 4294967296 * x = 4294967296 * (4294967296 ^ j * x) := fun x => by rw [Nat.mul_comm (4294967296 ^ j), Nat.mul_assoc]
      rw [e2, e2]
      omega
theorem dg_set_ne {l : List Nat} {i j d : Nat} (h : i ≠ j) : dg (l.set i d) j = dg l j := by
  by_cases hj : j < l.length
  · rw [dg_lt (by rw [List.length_set]; exact hj), dg_lt hj, List.getElem_set_ne h]
  · rw [dg_ge (by rw [List.length_set]; omega), dg_ge (by omega)]

theorem mac_lt {x y o c : Nat} (hx : x < 4294967296) (hy : y < 4294967296) (ho : o < 4294967296) (hc : c < 4294967296) : x * y + o + c < 18446744073709551616 := by
  have : x * y ≤ 4294967295 * 4294967295 := Nat.mul_le_mul (by omega) (by omega)
  omega

theorem mul_row {A l0 l : List Nat} {i k x c V : Nat} (hk : i + k < l.length) (he : val l + 4294967296 ^ (i + k) * c = V + 4294967296 ^ i * (x * val (A.take k))) :
    val (l.set (i + k) ((x * dg A k + dg l (i + k) + c) % 4294967296)) + 4294967296 ^ (i + (k + 1)) * ((x * dg A k + dg l (i + k) + c) / 4294967296) = V + 4294967296 ^ i * (x * val (A.take (k + 1))) := by
  have h1 := val_set ((x * dg A k + dg l (i + k) + c) % 4294967296) hk
  have h2 := Nat.mod_add_div (x * dg A k + dg l (i + k) + c) 4294967296
  rw [val_take_succ', Nat.mul_add, Nat.mul_add, ← Nat.add_assoc V, ← he, ← Nat.add_assoc, Nat.pow_succ]
  generalize (x * dg A k + dg l (i + k) + c) % 4294967296 = m at *
  generalize (x * dg A k + dg l (i + k) + c) / 4294967296 = q at *
  have e1 : 4294967296 ^ i * (x * (4294967296 ^ k * dg A k)) = 4294967296 ^ (i + k) * (x * dg A k) := by
    rw [Nat.pow_add, Nat.mul_left_comm x, Nat.mul_assoc]
  rw [e1]
  generalize 4294967296 ^ (i + k) = p at *
  rw [Nat.mul_assoc]
  have h3 : p * m + p * (4294967296 * q) = p * (x * dg A k) + p * dg l (i + k) + p * c := by rw [← Nat.mul_add, h2, Nat.mul_add, Nat.mul_add]
  omega

theorem mul_inner {B : List Nat} {zb : Bool} {i x b n : Nat} {va : AV} {na : Int} (hB : Dg B) (hx : x < 4294967296) (hs : n < 549755813888) (hn : i + B.length < n) (V : Nat) : ∀ (m k : Nat) (h : Heap) (l : List Nat) (c : Nat),
    m + k = B.length → Holds h b l → Dg l → l.length = n → c < 4294967296 → (∀ j, i + B.length ≤ j → dg l j = 0) → val l + 4294967296 ^ (i + k) * c = V + 4294967296 ^ i * (x * val (B.take k)) →
    Post (evL G T c_nat_mul_l1 [(1, D zb B), (5, .own b 0 n 1), (6, .int .i64 (i : Int)), (7, .int .u32 (x : Int)), (8, .int .u64 (c : Int)), (18, va), (19, .int .i64 na), (20, .int .i64 (i : Int)), (25, D zb B), (26, .int .i64 ((B.length : Nat) : Int)), (27, .int .i64 (k : Int))] h) fun r =>
      ∃ e h' l' c', r = (.exit 2, (1, D zb B) :: (5, .own b 0 n 1) :: (6, .int .i64 (i : Int)) :: (7, .int .u32 (x : Int)) :: (8, .int .u64 ((c' : Nat) : Int)) :: (18, va) :: (19, .int .i64 na) :: (20, .int .i64 (i : Int)) :: (25, D zb B) :: (26, .int .i64 ((B.length : Nat) : Int)) :: (27, .int .i64 ((B.length : Nat) : Int)) :: e, h') ∧
        Holds h' b l' ∧ Dg l' ∧ l'.length = n ∧ c' < 4294967296 ∧ (∀ j, i + B.length ≤ j → dg l' j = 0) ∧ val l' + 4294967296 ^ (i + B.length) * c' = V + 4294967296 ^ i * (x * val B)
  | 0, k, h, l, c, hm, H, hd, hl, hc, hz, he => by
    rw [s_loopc G T (c := c_nat_mul_l1) rfl]
    have h1 : ¬ (k : Int) < B.length := by omega
    repeat (first | (simp (maxSteps := 1000000) only [evB, if_true, if_false, ne_eq, Nat.reduceEqDiff, Nat.reduceAdd, reduceCtorEq, Int.reduceLE, Int.reduceLT, Int.reduceEq, Int.reduceNeg, Int.reduceToNat, Int.reducePow, Int.reduceMod, Int.reduceDiv, Int.reduceSub, Int.reduceAdd, Int.reduceMul, Nat.reduceMul, Nat.reduceSub, Nat.reducePow, c_nat_mul_b1, h1]) | (simp (disch := omega) only [wrap_i64, iaddr_D, rd_iptr, toNat_sub_one, toNat_add_one, sl_hi, sl_lo, iaddr_own, kM_new]))
    obtain rfl : k = B.length := by omega
    rw [List.take_length] at he

    exact Post.some ⟨_, _, _, _, rfl, H, hd, hl, hc, hz, he⟩
  | m + 1, k, h, l, c, hm, H, hd, hl, hc, hz, he => by
    rw [s_loopc G T (c := c_nat_mul_l1) rfl]
    have h1 : (k : Int) < B.length := by omega
    have e7 : (k : Int) + 1 = ((k + 1 : Nat) : Int) := by omega
    have e8 : (i : Int) + (k : Int) = ((i + k : Nat) : Int) := by omega
    have hy := hB.dg k
    have ho := hd.dg (i + k)
    have hik : i + k < l.length := by omega
    have w1 : (x : Int) % 18446744073709551616 = x := by omega
    have w2 : (dg B k : Int) % 18446744073709551616 = dg B k := by omega
    have w3 : (dg l (i + k) : Int) % 18446744073709551616 = dg l (i + k) := by omega
    have hM := mac_lt hx hy ho hc
    have key := mul_row (l0 := l) (A := B) (x := x) hik he
    have w4 : (x : Int) * (dg B k : Int) = ((x * dg B k : Nat) : Int) := by rw [Int.natCast_mul]
    generalize x * dg B k = p at *
    have w5 : (p : Int) % 18446744073709551616 = p := by omega
    have w6 : ((p : Int) + (dg l (i + k) : Int)) % 18446744073709551616 = (p : Int) + dg l (i + k) := by omega
    have w7 : ((p : Int) + (dg l (i + k) : Int) + (c : Int)) % 18446744073709551616 = ((p + dg l (i + k) + c : Nat) : Int) := by omega
    have w8 : ((p + dg l (i + k) + c : Nat) : Int) % 4294967296 = (((p + dg l (i + k) + c) % 4294967296 : Nat) : Int) := by omega
    have w9 : ((p + dg l (i + k) + c : Nat) : Int) / 4294967296 = (((p + dg l (i + k) + c) / 4294967296 : Nat) : Int) := by omega
    repeat (first | (simp (maxSteps := 1000000) only [evB, if_true, if_false, ne_eq, Nat.reduceEqDiff, Nat.reduceAdd, reduceCtorEq, Int.reduceLE, Int.reduceLT, Int.reduceEq, Int.reduceNeg, Int.reduceToNat, Int.reducePow, Int.reduceMod, Int.reduceDiv, Int.reduceSub, Int.reduceAdd, Int.reduceMul, Nat.reduceMul, Nat.reduceSub, Nat.reducePow, c_nat_mul_b1, h1, e7, e8, w1, w2, w3, w4, w5, w6, w7, w8, w9 ]) | (simp (disch := omega) only [wrap_i64, iaddr_D, rd_iptr, toNat_sub_one, toNat_add_one, sl_hi, sl_lo, iaddr_own, kM_new,  store_n H, load_own G H]))
    exact mul_inner hB hx hs hn V m (k + 1) _ _ _ (by omega) (H.put _) (Dg_set hd (Nat.mod_lt _ (by decide))) (by rw [List.length_set]; exact hl) (by omega) (fun j hj => by rw [dg_set_ne (by omega)]; exact hz j hj) key

theorem mul_outer {A B : List Nat} {za zb : Bool} {b : Nat} (hA : Dg A) (hB : Dg B) (hs : A.length + B.length < 17179869184) : ∀ (m i : Nat) (h : Heap) (l : List Nat),
    m + i = A.length → Holds h b l → Dg l → l.length = A.length + B.length → (∀ j, i + B.length ≤ j → dg l j = 0) → val l = val (A.take i) * val B →
    Post (evL G T c_nat_mul_l2 [(1, D zb B), (5, .own b 0 (A.length + B.length) 1), (18, D za A), (19, .int .i64 ((A.length : Nat) : Int)), (20, .int .i64 (i : Int))] h) fun r =>
      ∃ e h' l', r = (.exit 0, (1, D zb B) :: (5, .own b 0 (A.length + B.length) 1) :: e, h') ∧ Holds h' b l' ∧ Dg l' ∧ l'.length = A.length + B.length ∧ val l' = val A * val B
  | 0, i, h, l, hm, H, hd, hl, hz, he => by
    rw [s_loopc G T (c := c_nat_mul_l2) rfl]
    have h1 : ¬ (i : Int) < A.length := by omega
    repeat (first | (simp (maxSteps := 1000000) only [evB, if_true, if_false, ne_eq, Nat.reduceEqDiff, Nat.reduceAdd, reduceCtorEq, Int.reduceLE, Int.reduceLT, Int.reduceEq, Int.reduceNeg, Int.reduceToNat, Int.reducePow, Int.reduceMod, Int.reduceDiv, Int.reduceSub, Int.reduceAdd, Int.reduceMul, Nat.reduceMul, Nat.reduceSub, Nat.reducePow, c_nat_mul_b2, h1]) | (simp (disch := omega) only [wrap_i64, iaddr_D, rd_iptr, toNat_sub_one, toNat_add_one, sl_hi, sl_lo, iaddr_own, kM_new]))
    obtain rfl : i = A.length := by omega
    rw [List.take_length] at he
    exact Post.some ⟨_, _, _, rfl, H, hd, hl, he⟩
  | m + 1, i, h, l, hm, H, hd, hl, hz, he => by
    rw [s_loopc G T (c := c_nat_mul_l2) rfl]
    have h1 : (i : Int) < A.length := by omega
    have e7 : (i : Int) + 1 = ((i + 1 : Nat) : Int) := by omega
    have e8 : (i : Int) + (B.length : Int) = ((i + B.length : Nat) : Int) := by omega
    have hx := hA.dg i
    obtain ⟨_, hr, e, h', l', c', rfl, H', hd', hl', hc', hz', hv'⟩ := mul_inner (G := G) (T := T) (zb := zb) (i := i) (x := dg A i) (n := A.length + B.length) (va := D za A) (na := (A.length : Nat)) hB hx (by omega) (by omega) (val l) B.length 0 h l 0 (by omega) H hd hl (by omega) hz (by simp [val])
    rw [cast0] at hr
    have w1 : (c' : Int) % 4294967296 = c' := by omega
    repeat (first | (simp (maxSteps := 1000000) only [evB, if_true, if_false, ne_eq, Nat.reduceEqDiff, Nat.reduceAdd, reduceCtorEq, Int.reduceLE, Int.reduceLT, Int.reduceEq, Int.reduceNeg, Int.reduceToNat, Int.reducePow, Int.reduceMod, Int.reduceDiv, Int.reduceSub, Int.reduceAdd, Int.reduceMul, Nat.reduceMul, Nat.reduceSub, Nat.reducePow, c_nat_mul_b2, h1, e7, e8, hr, w1 ]) | (simp (disch := omega) only [wrap_i64, iaddr_D, rd_iptr, toNat_sub_one, toNat_add_one, sl_hi, sl_lo, iaddr_own, kM_new,  store_n H']))
    refine mul_outer hA hB hs m (i + 1) _ _ (by omega) (H'.put _) (Dg_set hd' hc') (by rw [List.length_set]; exact hl') (fun j hj => by rw [dg_set_ne (by omega)]; exact hz' j (by omega)) ?_
    have h3 := val_set (l := l') (j := i + B.length) c' (by omega)
    rw [hz' _ (Nat.le_refl _), Nat.mul_zero, Nat.add_zero] at h3
    rw [h3, hv', he, val_take_succ', Nat.add_mul, Nat.mul_assoc]

theorem nat_mul (hT : HasA g T) {z y : Bool} {a b : Nat} (hs : (dl a).length + (dl b).length < 17179869184) : ∃ z', run G T 113 [D z (dl a), D y (dl b)] = some (D z' (dl (a * b))) := by
  obtain ⟨_, hr, e, h', l', rfl, H, hd, hl, hv⟩ := mul_outer (G := G) (T := T) (za := z) (zb := y) (b := Heap.nil.b.length) (Dg_dl a) (Dg_dl b) hs (dl a).length 0 (new .nil (List.replicate ((dl a).length + (dl b).length) 0)) _ (by omega) (Holds_new FreH.nil _) (Dg_rep _) (by rw [List.length_replicate]) (fun j _ => by
    by_cases hj : j < ((dl a).length + (dl b).length)
    · rw [dg_lt (by rw [List.length_replicate]; exact hj), List.getElem_replicate]
    · exact dg_ge (by rw [List.length_replicate]; omega)) (by rw [List.take_zero]; simp [val, val_rep])
  rw [cast0] at hr
  rw [val_dl, val_dl] at hv
  have hsn := snap_own H (n := (dl a).length + (dl b).length) (by omega)
  rw [← hl, List.take_length] at hsn
  obtain ⟨z', hz⟩ := nat_trim (G := G) (T := T) hT (z := false) hd (by omega)
  rw [hl] at hsn
  refine ⟨z', ?_⟩
  have e8 : ((dl a).length : Int) + ((dl b).length : Int) = (((dl a).length + (dl b).length : Nat) : Int) := by omega
  rw [run_k G T hT.nat_mul, ← hv]
  repeat (first | (simp (maxSteps := 1000000) only [evB, if_true, if_false, ne_eq, Nat.reduceEqDiff, Nat.reduceAdd, reduceCtorEq, Int.reduceLE, Int.reduceLT, Int.reduceEq, Int.reduceNeg, Int.reduceToNat, Int.reducePow, Int.reduceMod, Int.reduceDiv, Int.reduceSub, Int.reduceAdd, Int.reduceMul, Nat.reduceMul, Nat.reduceSub, Nat.reducePow, c_nat_mul, e8, hr, hsn, hz]) | (simp (disch := omega) only [wrap_i64, iaddr_D, rd_iptr, toNat_sub_one, toNat_add_one, sl_hi, sl_lo, iaddr_own, kM_new]))
end Go.Cv

/-
  A digit of a quotient, guessed (plain).
-/
namespace Go.Cv

end Go.Cv

/-
  Digits added and taken with a carry.
-/
namespace Go.Cv
variable {G : Nat → Option (List AV)} {T : Tbl} {g : Nat}

theorem un_xor32 (x : Int) : evUn .xor (.int .u32 x) = some (.int .u32 (xorI .u32 4294967295 x)) := by rw [xorI_eq]; rfl
theorem xor32 {a b : Nat} (ha : a < 4294967296) (hb : b < 4294967296) : xorI .u32 (a : Int) (b : Int) = ((a ^^^ b : Nat) : Int) := by
  have : a ^^^ b < 2 ^ 32 := Nat.xor_lt_two_pow (n := 32) ha hb
  rw [xorI_eq]
  show IntKind.u32.wrap ((BitVec.ofInt 32 a ^^^ BitVec.ofInt 32 b).toNat : Int) = _
  rw [show BitVec.ofInt 32 (a : Int) = BitVec.ofNat 32 a from rfl, show BitVec.ofInt 32 (b : Int) = BitVec.ofNat 32 b from rfl, BitVec.toNat_xor, BitVec.toNat_ofNat, BitVec.toNat_ofNat, Nat.mod_eq_of_lt (by omega), Nat.mod_eq_of_lt (by omega), wrap_u32]
  omega

theorem top_bit {n : Nat} (h : n < 4294967296) : n / 2147483648 = (n.testBit 31).toNat := by
  rw [Nat.testBit_eq_decide_div_mod_eq, show (2 : Nat) ^ 31 = 2147483648 from rfl]
  by_cases h2 : n / 2147483648 % 2 = 1
  · rw [decide_eq_true h2]; simp only [Bool.toNat_true]; omega
  · rw [decide_eq_false h2]; simp only [Bool.toNat_false]; omega
theorem borrow_bit {x y d w z : Nat} (hx : x < 4294967296) (hy : y < 4294967296) (hd : d < 4294967296) (hw : w ≤ 1) (hz : z ≤ 1) (h : d + y + w = x + 4294967296 * z) :
    (((4294967295 ^^^ x) &&& y) ||| ((4294967295 ^^^ (x ^^^ y)) &&& d)) / 2147483648 = z := by
  have l1 : ((4294967295 ^^^ x) &&& y) ||| ((4294967295 ^^^ (x ^^^ y)) &&& d) < 4294967296 :=
    Nat.or_lt_two_pow (n := 32) (Nat.and_lt_two_pow _ hy) (Nat.and_lt_two_pow _ hd)
  rw [top_bit l1]
  have t1 : Nat.testBit 4294967295 31 = true := by decide
  simp only [Nat.testBit_or, Nat.testBit_and, Nat.testBit_xor, t1]
  have e : ∀ n, n < 4294967296 → n.testBit 31 = decide (2147483648 ≤ n) := fun n hn => by
    rw [Nat.testBit_eq_decide_div_mod_eq, show (2 : Nat) ^ 31 = 2147483648 from rfl]
    by_cases h2 : 2147483648 ≤ n
    · rw [decide_eq_true h2]; simp only [decide_eq_true_eq]; omega
    · rw [decide_eq_false h2]; simp only [decide_eq_false_iff_not]; omega
  rw [e x hx, e y hy, e d hd]
  by_cases a : 2147483648 ≤ x <;> by_cases b : 2147483648 ≤ y <;> by_cases c : 2147483648 ≤ d <;> simp [a, b, c] <;> omega

theorem bits_Sub32 (hT : HasA g T) {x y w d z : Nat} (hx : x < 4294967296) (hy : y < 4294967296) (hw : w ≤ 1) (hd : d < 4294967296) (hz : z ≤ 1) (h : d + y + w = x + 4294967296 * z) :
    run G T 121 [.int .u32 (x : Int), .int .u32 (y : Int), .int .u32 (w : Int)] = some (.tup [.int .u32 (d : Int), .int .u32 (z : Int)]) := by
  rw [run_k G T hT.bits_Sub32]
  have w1 : ((x : Int) - y) % 4294967296 = ((x : Int) - y) % 4294967296 := rfl
  have w2 : (((x : Int) - y) % 4294967296 - w) % 4294967296 = (d : Int) := by omega
  have n1 : (4294967295 ^^^ x) < 4294967296 := Nat.xor_lt_two_pow (n := 32) (by decide) hx
  have n2 : (x ^^^ y) < 4294967296 := Nat.xor_lt_two_pow (n := 32) hx hy
  have n3 : (4294967295 ^^^ (x ^^^ y)) < 4294967296 := Nat.xor_lt_two_pow (n := 32) (by decide) n2
  have x1 := xor32 (a := 4294967295) (b := x) (by decide) hx
  have x2 := xor32 hx hy
  have x3 := xor32 (a := 4294967295) (b := x ^^^ y) (by decide) n2
  rw [show ((4294967295 : Nat) : Int) = 4294967295 from rfl] at x1 x3
  have a1 := and32 n1 hy
  have a2 := and32 n3 hd
  have l1 := Nat.and_lt_two_pow (n := 32) (4294967295 ^^^ x) hy
  have l2 := Nat.and_lt_two_pow (n := 32) (4294967295 ^^^ (x ^^^ y)) hd
  have o1 := or32 l1 l2
  have b1 := borrow_bit hx hy hd hw hz h
  have b2 : (((((4294967295 ^^^ x) &&& y) ||| ((4294967295 ^^^ (x ^^^ y)) &&& d)) : Nat) : Int) / 2147483648 = (z : Int) := by
    rw [← b1]; rfl
  repeat (first | (simp (maxSteps := 1000000) only [evB, if_true, if_false, ne_eq, Nat.reduceEqDiff, Nat.reduceAdd, reduceCtorEq, Int.reduceLE, Int.reduceLT, Int.reduceEq, Int.reduceNeg, Int.reduceToNat, Int.reducePow, Int.reduceMod, Int.reduceDiv, Int.reduceSub, Int.reduceAdd, Int.reduceMul, Nat.reduceMul, Nat.reduceSub, Nat.reducePow, c_bits_Sub32, un_xor32, w2, x1, x2, x3, a1, a2, o1, b2]) | (simp (disch := omega) only [wrap_i64, iaddr_D, rd_iptr, toNat_sub_one, toNat_add_one, sl_hi, sl_lo, iaddr_own, kM_new]))

theorem bits_Add32 (hT : HasA g T) {x y w d z : Nat} (hx : x < 4294967296) (hy : y < 4294967296) (hw : w ≤ 1) (hd : d < 4294967296) (hz : z ≤ 1) (h : d + 4294967296 * z = x + y + w) :
    run G T 112 [.int .u32 (x : Int), .int .u32 (y : Int), .int .u32 (w : Int)] = some (.tup [.int .u32 (d : Int), .int .u32 (z : Int)]) := by
  rw [run_k G T hT.bits_Add32]
  have w1 : (x : Int) % 18446744073709551616 = x := by omega
  have w2 : (y : Int) % 18446744073709551616 = y := by omega
  have w3 : (w : Int) % 18446744073709551616 = w := by omega
  have w4 : ((x : Int) + y) % 18446744073709551616 = (x : Int) + y := by omega
  have w5 : ((x : Int) + y + w) % 18446744073709551616 = (x : Int) + y + w := by omega
  have w6 : ((x : Int) + y + w) % 4294967296 = d := by omega
  have w7 : ((x : Int) + y + w) / 4294967296 = z := by omega
  have w8 : (z : Int) % 4294967296 = z := by omega
  repeat (first | (simp (maxSteps := 1000000) only [evB, if_true, if_false, ne_eq, Nat.reduceEqDiff, Nat.reduceAdd, reduceCtorEq, Int.reduceLE, Int.reduceLT, Int.reduceEq, Int.reduceNeg, Int.reduceToNat, Int.reducePow, Int.reduceMod, Int.reduceDiv, Int.reduceSub, Int.reduceAdd, Int.reduceMul, Nat.reduceMul, Nat.reduceSub, Nat.reducePow, c_bits_Add32, w1, w2, w3, w4, w5, w6, w7, w8]) | (simp (disch := omega) only [wrap_i64, iaddr_D, rd_iptr, toNat_sub_one, toNat_add_one, sl_hi, sl_lo, iaddr_own, kM_new]))

end Go.Cv

/-
  One digit of a long quotient, on the blocks.
-/
namespace Go.Cv
variable {G : Nat → Option (List AV)} {T : Tbl} {g : Nat}

end Go.Cv

/-
  One digit of a long quotient: a multiple taken away, the divisor added back.
-/
namespace Go.Cv
variable {G : Nat → Option (List AV)} {T : Tbl} {g : Nat}

end Go.Cv

/-
  One digit of a long quotient, whole.
-/
namespace Go.Cv
variable {G : Nat → Option (List AV)} {T : Tbl} {g : Nat}

end Go.Cv

/-
  One digit of a long quotient: the function.
-/
namespace Go.Cv
variable {G : Nat → Option (List AV)} {T : Tbl} {g : Nat}

end Go.Cv

/-
  Numbers shifted up into a block of the caller's.
-/
namespace Go.Cv
variable {G : Nat → Option (List AV)} {T : Tbl} {g : Nat}

end Go.Cv

/-
  A long quotient: the digits one after the other.
-/
namespace Go.Cv
variable {G : Nat → Option (List AV)} {T : Tbl} {g : Nat}

end Go.Cv

/-
  A long quotient.
-/
namespace Go.Cv
variable {G : Nat → Option (List AV)} {T : Tbl} {g : Nat}

end Go.Cv

/-
  The program's quotients.
-/
namespace Go.Cv
variable {G : Nat → Option (List AV)} {T : Tbl} {g : Nat}

theorem all_loop (e : Env) (h : Heap) : evL G T c_nat_all_l1 e h = kS G T (evL G T c_nat_all_b1 (keepE [5, 6, 7] e) h) c_nat_all_l1 := s_loopc G T rfl e h
theorem ia1_0 (x y : AV) (k : IntKind) : iaddrV 1 (.imm 2 [x, y]) (.int k 0) = some (.iptr [x, y] 0) := rfl
theorem ia1_1 (x y : AV) (k : IntKind) : iaddrV 1 (.imm 2 [x, y]) (.int k 1) = some (.iptr [x, y] 1) := rfl
theorem rd1_0 (h : Mem) (x y : AV) : rdAt G h 1 (.iptr [x, y] 0) = some [x] := rfl
theorem rd1_1 (h : Mem) (x y : AV) : rdAt G h 1 (.iptr [x, y] 1) = some [y] := rfl

theorem nat_all (hT : HasA g T) {z y : Bool} {a b : List Nat} : run G T 106 [.imm 2 [D z a, D y b]] = some (.bool (mayL a && mayL b)) := by
  rw [run_k G T hT.nat_all]
  have h1 := nat_May (G := G) hT z a
  have h2 := nat_May (G := G) hT y b
  cases ha : mayL a <;> cases hb : mayL b <;> (
    rw [ha] at h1
    rw [hb] at h2
    repeat' (first | (simp (maxSteps := 1000000) only [evB, if_true, if_false, ne_eq, Nat.reduceEqDiff, Nat.reduceAdd, reduceCtorEq, Int.reduceLE, Int.reduceLT, Int.reduceEq, Int.reduceNeg, Int.reduceToNat, Int.reducePow, Int.reduceMod, Int.reduceDiv, Int.reduceSub, Int.reduceAdd, Int.reduceMul, Nat.reduceMul, Nat.reduceSub, Nat.reducePow, exB, resC_ptr, res_cell, nilb, nilf, faddr_p, c_nat_all, h1, h2, all_loop, c_nat_all_b1, ia1_0, ia1_1, rd1_0, rd1_1]) | (simp (maxSteps := 1000000) (disch := first | with_reducible assumption | omega) only [wrap_i64, iaddr_D, rd_iptr, toNat_sub_one, toNat_add_one, sl_hi, sl_lo, iaddr_own, kM_new, sub_cells, setO_cells, sub_pre, ct_fz1, dec_t, dec_f, bv_t, bv_f, tmod_nn, tdiv_nn, bin_shl, bin_shr]) | (simp only [kI_d, kG_dt, kG_df]; split) | (simp only [kI_v, kG_vt, kG_vf]; split))
    all_goals rfl)

theorem app_nil {h : Heap} {z : Bool} {l : List Nat} (hl : l ≠ []) (hs : l.length < 549755813888) : appV h 1 4 .nil (D z l) = some (.own h.b.length 0 l.length 1, new h l) := by
  cases l with
  | nil => exact absurd rfl hl
  | cons a l =>
    have e : sliceCells h.mem 1 (D z (a :: l)) = some ((a :: l).length, cells (a :: l)) := by
      simp [D, sliceCells, cells]
    simp only [appV, e]
    rw [if_neg (by simp), if_pos (by simp only [boundBytes]; omega)]
    rfl
theorem app_nil0 {h : Heap} {z : Bool} : appV h 1 4 .nil (D z []) = some (.nil, h) := by
  cases z <;> rfl

theorem cmpN_neg {a b : Nat} : cmpN a b < 0 ↔ a < b := by
  unfold cmpN; split
  · constructor <;> intro <;> omega
  · split <;> constructor <;> intro <;> omega

end Go.Cv

/-
  The program's roots.
-/
namespace Go.Cv
variable {G : Nat → Option (List AV)} {T : Tbl} {g : Nat}

end Go.Cv

/-
  The program's root.
-/
namespace Go.Cv
variable {G : Nat → Option (List AV)} {T : Tbl} {g : Nat}

end Go.Cv

/-
  The program's root, whole.
-/
namespace Go.Cv
variable {G : Nat → Option (List AV)} {T : Tbl} {g : Nat}

end Go.Cv

/-
  The document's quotient: bit by bit.
-/
namespace Go.Cv
variable {G : Nat → Option (List AV)} {T : Tbl} {g : Nat}

end Go.Cv

/-
  The document's quotient: its loop.
-/
namespace Go.Cv
variable {G : Nat → Option (List AV)} {T : Tbl} {g : Nat}

end Go.Cv

/-
  The document's quotient, whole.
-/
namespace Go.Cv
variable {G : Nat → Option (List AV)} {T : Tbl} {g : Nat}

end Go.Cv

/-
  The document's root (plain part).
-/
namespace Go.Cv
variable {G : Nat → Option (List AV)} {T : Tbl} {g : Nat}

end Go.Cv

/-
  The document's root: the loop.
-/
namespace Go.Cv
variable {G : Nat → Option (List AV)} {T : Tbl} {g : Nat}

end Go.Cv

/-
  The document's root, whole.
-/
namespace Go.Cv
variable {G : Nat → Option (List AV)} {T : Tbl} {g : Nat}

end Go.Cv

/-
  Numbers cut: the document's; how many bits may be asked for.
-/
namespace Go.Cv
variable {G : Nat → Option (List AV)} {T : Tbl} {g : Nat}

end Go.Cv

/-
  A quotient that was reckoned with some bits more is cut.
-/
namespace Go.Cv
variable {G : Nat → Option (List AV)} {T : Tbl} {g : Nat}

end Go.Cv

/-
  The document's quotient of dyadic numbers.
-/
namespace Go.Cv
variable {G : Nat → Option (List AV)} {T : Tbl} {g : Nat}

end Go.Cv

/-
  Numbers cut, in their one form (plain).
-/
namespace Go.Cv

end Go.Cv

/-
  A number that is short enough is not cut.
-/
namespace Go.Cv
variable {G : Nat → Option (List AV)} {T : Tbl} {g : Nat}

end Go.Cv

/-
  The document's quotient of dyadic numbers.
-/
namespace Go.Cv
variable {G : Nat → Option (List AV)} {T : Tbl} {g : Nat}

end Go.Cv

/-
  The document's quotient of dyadic numbers.
-/
namespace Go.Cv
variable {G : Nat → Option (List AV)} {T : Tbl} {g : Nat}

end Go.Cv

/-
  The program's quotient of dyadic numbers.
-/
namespace Go.Cv
variable {G : Nat → Option (List AV)} {T : Tbl} {g : Nat}

theorem both_loop (e : Env) (h : Heap) : evL G T c_dyad_both_l1 e h = kS G T (evL G T c_dyad_both_b1 (keepE [5, 6, 7] e) h) c_dyad_both_l1 := s_loopc G T rfl e h

theorem dyad_both (hA : HasA g T) (hT : HasC g T) {n z n' z' : Bool} {l l' : List Nat} (hd : Dg l) (hd' : Dg l') {e e' : Int} :
    run G T 74 [.imm 2 [.bool n, D z l, .int .i64 e, .bool n', D z' l', .int .i64 e']] = some (.bool (mayD n l e && mayD n' l' e')) := by
  rw [run_k G T hT.dyad_both]
  have h2 := dyad_May (G := G) (T := T) hA hT (n := n) (z := z) hd (e := e)
  have h3 := dyad_May (G := G) (T := T) hA hT (n := n') (z := z') hd' (e := e')
  simp only [A3] at *
  cases hm : mayD n l e <;> cases hm' : mayD n' l' e' <;> (
    rw [hm] at h2
    rw [hm'] at h3
    repeat' (first | (simp (maxSteps := 1000000) only [evB, if_true, if_false, ne_eq, Nat.reduceEqDiff, Nat.reduceAdd, reduceCtorEq, Int.reduceLE, Int.reduceLT, Int.reduceEq, Int.reduceNeg, Int.reduceToNat, Int.reducePow, Int.reduceMod, Int.reduceDiv, Int.reduceSub, Int.reduceAdd, Int.reduceMul, Nat.reduceMul, Nat.reduceSub, Nat.reducePow, exB, resC_ptr, res_cell, nilb, nilf, faddr_p, c_dyad_both, h2, h3, both_loop, c_dyad_both_b1, iad20, iad21, rd_ip]) | (simp (maxSteps := 1000000) (disch := first | with_reducible assumption | omega) only [wrap_i64, iaddr_D, rd_iptr, toNat_sub_one, toNat_add_one, sl_hi, sl_lo, iaddr_own, kM_new, sub_cells, setO_cells, sub_pre, ct_fz1, dec_t, dec_f, bv_t, bv_f, tmod_nn, tdiv_nn, bin_shl, bin_shr]) | (simp only [kI_d, kG_dt, kG_df]; split) | (simp only [kI_v, kG_vt, kG_vf]; split))
    all_goals rfl)
end Go.Cv

/-
  The program's quotient of dyadic numbers.
-/
namespace Go.Cv
variable {G : Nat → Option (List AV)} {T : Tbl} {g : Nat}

end Go.Cv

/-
  The program's root of a dyadic number.
-/
namespace Go.Cv
variable {G : Nat → Option (List AV)} {T : Tbl} {g : Nat}

end Go.Cv

/-
  The document's root of a dyadic number.
-/
namespace Go.Cv
variable {G : Nat → Option (List AV)} {T : Tbl} {g : Nat}

end Go.Cv

/-
  Rounding a number that is told by its first bits and whether there is something behind them.
-/
namespace Go.Cv

end Go.Cv

/-
  Rounding of quotients and roots: the program's and the document's.
-/
namespace Go.Cv
variable {G : Nat → Option (List AV)} {T : Tbl} {g : Nat}

end Go.Cv

/-
  The document's rounding of quotients.
-/
namespace Go.Cv
variable {G : Nat → Option (List AV)} {T : Tbl} {g : Nat}

end Go.Cv

/-
  Rounding of roots: the program's and the document's.
-/
namespace Go.Cv
variable {G : Nat → Option (List AV)} {T : Tbl} {g : Nat}

end Go.Cv

/-
  Products, column by column (in numbers).
-/
namespace Go.Cv

end Go.Cv

/-
  Products: the document's.
-/
namespace Go.Cv
variable {G : Nat → Option (List AV)} {T : Tbl} {g : Nat}

end Go.Cv

/-
  Sums, products, roots of words, in numbers.
-/
namespace Go.Cv

/-- The canonical NaN. -/
def Fm.nan (F : Fm) : Nat := F.most * 2 ^ F.fr + 2 ^ (F.fr - 1)

theorem w_split {F : Fm} {w : Nat} (h : w < 2 * F.sg) : w = w % F.sg + F.sgn (F.ng w) ∧ w % F.sg = 2 ^ F.fr * F.ex w + F.fc w ∧ F.fc w < 2 ^ F.fr ∧ F.ex w ≤ F.most := by
  have hp := Nat.two_pow_pos F.fr
  have hsg : F.sg = 2 ^ F.fr * (F.most + 1) := by cases F <;> decide
  have h0 : 0 < F.sg := by cases F <;> decide
  refine ⟨?_, (Nat.div_add_mod _ _).symm, Nat.mod_lt _ hp, ?_⟩
  · unfold Fm.ng Fm.sgn
    by_cases h1 : F.sg ≤ w
    · rw [decide_eq_true h1, if_pos rfl, Nat.mod_eq_sub_mod h1, Nat.mod_eq_of_lt (by omega)]; omega
    · rw [decide_eq_false h1, if_neg (by decide), Nat.mod_eq_of_lt (by omega)]; rfl
  · have h1 := Nat.mod_lt w h0
    have : w % F.sg / 2 ^ F.fr < F.most + 1 := Nat.div_lt_of_lt_mul (by rw [← hsg]; exact h1)
    unfold Fm.ex; omega
theorem cls_range (F : Fm) (w : Nat) : F.cls w = 1 ∨ F.cls w = 2 ∨ F.cls w = 3 ∨ F.cls w = 4 ∨ F.cls w = 5 := by
  unfold Fm.cls; repeat' split
  all_goals omega
/-- An exact sum, rounded. -/
def sumW (F : Fm) (md : Int) (d : Dy) : Nat × Nat := if d.m = 0 then (F.sgn (decide (md = 5)), 0) else rndW F md d
/-- The sum of two parts (class, sign, value). -/
def addP (F : Fm) (md : Int) (c : Int) (n : Bool) (d : Dy) (c' : Int) (n' : Bool) (d' : Dy) : Nat × Nat :=
  if c = 5 ∨ c' = 5 then (F.nan, 0)
  else if c = 4 ∧ c' = 4 ∧ n ≠ n' then (F.nan, 1)
  else if c = 4 then (F.inf n, 0)
  else if c' = 4 then (F.inf n', 0)
  else if c = 1 ∧ c' = 1 ∧ n = n' then (F.sgn n, 0)
  else sumW F md (addD d d')
def mulD (a b : Dy) : Dy := mkD (a.n != b.n) (a.m * b.m) (a.e + b.e)
def mulP (F : Fm) (md : Int) (c : Int) (n : Bool) (d : Dy) (c' : Int) (n' : Bool) (d' : Dy) : Nat × Nat :=
  if c = 5 ∨ c' = 5 then (F.nan, 0)
  else if (c = 4 ∨ c' = 4) ∧ (c = 1 ∨ c' = 1) then (F.nan, 1)
  else if c = 4 ∨ c' = 4 then (F.inf (n != n'), 0)
  else if c = 1 ∨ c' = 1 then (F.sgn (n != n'), 0)
  else sumW F md (mulD d d')
/-- A word's value; of one that is not finite, nought. -/
def Fm.vl (F : Fm) (w : Nat) : Dy := if F.fin w then F.val w else ⟨false, 0, 0⟩
def addW (F : Fm) (md : Int) (a b : Nat) : Nat × Nat := addP F md (F.cls a) (F.ng a) (F.vl a) (F.cls b) (F.ng b) (F.vl b)
def subW (F : Fm) (md : Int) (a b : Nat) : Nat × Nat := addP F md (F.cls a) (F.ng a) (F.vl a) (F.cls b) (!F.ng b) (negD (F.vl b))
def mulW2 (F : Fm) (md : Int) (a b : Nat) : Nat × Nat := mulP F md (F.cls a) (F.ng a) (F.vl a) (F.cls b) (F.ng b) (F.vl b)
/-- The class of a product. -/
def prC (c c' : Int) : Int := if c = 4 ∨ c' = 4 then 4 else if c = 1 ∨ c' = 1 then 1 else 3
def fmaW (F : Fm) (md : Int) (a b c : Nat) : Nat × Nat :=
  if F.cls a = 5 ∨ F.cls b = 5 ∨ F.cls c = 5 then (F.nan, 0)
  else if (F.cls a = 4 ∨ F.cls b = 4) ∧ (F.cls a = 1 ∨ F.cls b = 1) then (F.nan, 1)
  else addP F md (prC (F.cls a) (F.cls b)) (F.ng a != F.ng b) (if prC (F.cls a) (F.cls b) = 3 then mulD (F.vl a) (F.vl b) else ⟨false, 0, 0⟩) (F.cls c) (F.ng c) (F.vl c)

theorem addD_comm {a b : Dy} (ha : Nz a) (hb : Nz b) : addD a b = addD b a := by
  unfold addD
  by_cases h1 : a.m = 0
  · by_cases h2 : b.m = 0
    · rw [if_pos h1, if_pos h2, ha.1 h1, hb.1 h2]
    · rw [if_pos h1, if_neg h2, if_pos h1]
  · by_cases h2 : b.m = 0
    · rw [if_neg h1, if_pos h2, if_pos h2]
    · rw [if_neg h1, if_neg h2, if_neg h2, if_neg h1, Int.min_comm b.e a.e]
      generalize a.m * 2 ^ (a.e - min a.e b.e).toNat = x
      generalize b.m * 2 ^ (b.e - min a.e b.e).toNat = y
      by_cases h3 : a.n = b.n
      · rw [if_pos h3, if_pos h3.symm, h3, Nat.add_comm]
      · rw [if_neg h3, if_neg (show ¬ b.n = a.n from fun h => h3 h.symm)]
        by_cases h4 : y ≤ x
        · by_cases h5 : x ≤ y
          · rw [if_pos h4, if_pos h5, show x = y by omega, Nat.sub_self]; rfl
          · rw [if_pos h4, if_neg h5]
        · rw [if_neg h4, if_pos (by omega)]
theorem addP_comm (F : Fm) (md : Int) {c c' : Int} {n n' : Bool} {d d' : Dy} (hd : Nz d) (hd' : Nz d') : addP F md c n d c' n' d' = addP F md c' n' d' c n d := by
  unfold addP
  rw [addD_comm hd hd']
  by_cases h1 : c = 5 ∨ c' = 5
  · rw [if_pos h1, if_pos (show c' = 5 ∨ c = 5 by omega)]
  · rw [if_neg h1, if_neg (show ¬ (c' = 5 ∨ c = 5) by omega)]
    by_cases h2 : c = 4
    · by_cases h3 : c' = 4
      · by_cases h4 : n = n'
        · rw [if_neg (show ¬ (c = 4 ∧ c' = 4 ∧ n ≠ n') from fun h => h.2.2 h4), if_pos h2, if_neg (show ¬ (c' = 4 ∧ c = 4 ∧ n' ≠ n) from fun h => h.2.2 h4.symm), if_pos h3, h4]
        · rw [if_pos (show c = 4 ∧ c' = 4 ∧ n ≠ n' from ⟨h2, h3, h4⟩), if_pos (show c' = 4 ∧ c = 4 ∧ n' ≠ n from ⟨h3, h2, fun h => h4 h.symm⟩)]
      · rw [if_neg (show ¬ (c = 4 ∧ c' = 4 ∧ n ≠ n') by omega), if_pos h2, if_neg (show ¬ (c' = 4 ∧ c = 4 ∧ n' ≠ n) by omega), if_neg h3, if_pos h2]
    · rw [if_neg (show ¬ (c = 4 ∧ c' = 4 ∧ n ≠ n') by omega), if_neg h2, if_neg (show ¬ (c' = 4 ∧ c = 4 ∧ n' ≠ n) by omega)]
      by_cases h3 : c' = 4
      · rw [if_pos h3, if_pos h3]
      · rw [if_neg h3, if_neg h3, if_neg h2]
        by_cases h4 : c = 1 ∧ c' = 1 ∧ n = n'
        · rw [if_pos h4, if_pos (show c' = 1 ∧ c = 1 ∧ n' = n from ⟨h4.2.1, h4.1, h4.2.2.symm⟩), h4.2.2]
        · rw [if_neg h4, if_neg (show ¬ (c' = 1 ∧ c = 1 ∧ n' = n) from fun h => h4 ⟨h.2.1, h.1, h.2.2.symm⟩)]
theorem mulP_comm (F : Fm) (md : Int) {c c' : Int} {n n' : Bool} {d d' : Dy} : mulP F md c n d c' n' d' = mulP F md c' n' d' c n d := by
  unfold mulP mulD
  have e1 : (n != n') = (n' != n) := by cases n <;> cases n' <;> rfl
  have e2 : (d.n != d'.n) = (d'.n != d.n) := by cases d.n <;> cases d'.n <;> rfl
  rw [e1, e2, Nat.mul_comm d.m, Int.add_comm d.e]
  by_cases h1 : c = 5 ∨ c' = 5
  · rw [if_pos h1, if_pos (show c' = 5 ∨ c = 5 by omega)]
  · rw [if_neg h1, if_neg (show ¬ (c' = 5 ∨ c = 5) by omega)]
    by_cases h2 : (c = 4 ∨ c' = 4) ∧ (c = 1 ∨ c' = 1)
    · rw [if_pos h2, if_pos (show (c' = 4 ∨ c = 4) ∧ (c' = 1 ∨ c = 1) by omega)]
    · rw [if_neg h2, if_neg (show ¬ ((c' = 4 ∨ c = 4) ∧ (c' = 1 ∨ c = 1)) by omega)]
      by_cases h3 : c = 4 ∨ c' = 4
      · rw [if_pos h3, if_pos (show c' = 4 ∨ c = 4 by omega)]
      · rw [if_neg h3, if_neg (show ¬ (c' = 4 ∨ c = 4) by omega)]
        by_cases h4 : c = 1 ∨ c' = 1
        · rw [if_pos h4, if_pos (show c' = 1 ∨ c = 1 by omega)]
        · rw [if_neg h4, if_neg (show ¬ (c' = 1 ∨ c = 1) by omega)]

/-- The word with the other sign. -/
def Fm.flip (F : Fm) (w : Nat) : Nat := w % F.sg + F.sgn (!F.ng w)
theorem flip_facts {F : Fm} {w : Nat} (h : w < 2 * F.sg) : F.flip w < 2 * F.sg ∧ F.ng (F.flip w) = !F.ng w ∧ F.cls (F.flip w) = F.cls w ∧ F.vl (F.flip w) = negD (F.vl w) := by
  have h0 : 0 < F.sg := by cases F <;> decide
  have h1 := Nat.mod_lt w h0
  obtain ⟨e1, e2⟩ := sgn_mod (F := F) (!F.ng w) h1
  have hx : F.ex (F.flip w) = F.ex w := by unfold Fm.ex Fm.flip; rw [e1]
  have hy : F.fc (F.flip w) = F.fc w := by unfold Fm.fc Fm.flip; rw [e1]
  refine ⟨?_, e2, ?_, ?_⟩
  · unfold Fm.flip Fm.sgn; split <;> omega
  · unfold Fm.cls; rw [hx, hy]
  · have hn : F.ng (F.flip w) = !F.ng w := e2
    have hff : F.fin (F.flip w) ↔ F.fin w := by unfold Fm.fin; rw [hx]
    unfold Fm.vl
    by_cases h3 : F.fin w
    · rw [if_pos h3, if_pos (hff.2 h3)]
      unfold Fm.val
      rw [hx, hy, hn]
      have hmk : ∀ (m : Nat) (e : Int), mkD (!F.ng w) m e = negD (mkD (F.ng w) m e) := fun m e => by
        by_cases hm : m = 0
        · subst hm; rfl
        · unfold negD; rw [if_neg (mkD_m0 hm e), mkD_pos hm, mkD_pos hm]
      split <;> exact hmk _ _
    · rw [if_neg h3, if_neg (fun h => h3 (hff.1 h))]; rfl
theorem subW_flip (F : Fm) (md : Int) {a b : Nat} (hb : b < 2 * F.sg) : subW F md a b = addW F md a (F.flip b) := by
  obtain ⟨h1, h2, h3, h4⟩ := flip_facts hb
  unfold subW addW; rw [h2, h3, h4]
theorem Nz_vl (F : Fm) (w : Nat) : Nz (F.vl w) := by
  unfold Fm.vl; split
  · unfold Fm.val; split <;> exact Nz_mk _ _ _
  · exact ⟨fun _ => rfl, fun h => absurd rfl h⟩
theorem Bd_vl (F : Fm) (w : Nat) : Bd (F.vl w) 4096 := by
  unfold Fm.vl; split
  · rename_i h; exact Bd_val F h
  · exact ⟨by simp only [blen_zero]; omega, by simp, by simp⟩
theorem fin_iff {F : Fm} {w : Nat} : F.fin w ↔ F.cls w = 1 ∨ F.cls w = 2 ∨ F.cls w = 3 := by
  have h1 := fin_cls F w
  have h2 := cls_range F w
  constructor
  · intro h; have := h1.1 h; omega
  · intro h; exact h1.2 (by omega)
end Go.Cv

/-
  The program's sums, differences, comparisons of numbers.
-/
namespace Go.Cv
variable {G : Nat → Option (List AV)} {T : Tbl} {g : Nat}

theorem val_set_take {l : List Nat} {i v : Nat} (h : i < l.length) : val ((l.set i v).take (i + 1)) = val (l.take i) + 4294967296 ^ i * v := by
  rw [val_take_succ', List.take_set_of_le (Nat.le_refl i)]
  congr 2
  rw [dg_lt (by rw [List.length_set]; exact h), List.getElem_set_self]

theorem nAdd_loop (hT : HasA g T) {A B : List Nat} {z y : Bool} {b : Nat} (hA : Dg A) (hB : Dg B) (hs : A.length < 17179869184) (ht : B.length ≤ A.length) : ∀ (m i : Nat) (h : Heap) (l : List Nat) (c : Nat),
    m + i = A.length → Holds h b l → Dg l → l.length = A.length + 1 → c ≤ 1 → val (l.take i) + 4294967296 ^ i * c = val (A.take i) + val (B.take i) →
    Post (evL G T c_nat_Add_l1 [(0, D z A), (1, D y B), (6, .own b 0 (A.length + 1) 1), (7, .int .u32 (c : Int)), (27, .int .i64 ((A.length : Nat) : Int)), (28, .int .i64 (i : Int))] h) fun r =>
      ∃ e h' l' c', r = (.exit 0, (0, D z A) :: (1, D y B) :: (6, .own b 0 (A.length + 1) 1) :: (7, .int .u32 ((c' : Nat) : Int)) :: e, h') ∧ Holds h' b l' ∧ Dg l' ∧ l'.length = A.length + 1 ∧ c' ≤ 1 ∧ val (l'.take A.length) + 4294967296 ^ A.length * c' = val A + val B
  | 0, i, h, l, c, hm, H, hd, hl, hc, he => by
    rw [s_loopc G T (c := c_nat_Add_l1) rfl]
    have h1 : ¬ (i : Int) < (A.length : Int) := by omega
    repeat (first | (simp (maxSteps := 1000000) only [evB, if_true, if_false, ne_eq, Nat.reduceEqDiff, Nat.reduceAdd, reduceCtorEq, Int.reduceLE, Int.reduceLT, Int.reduceEq, Int.reduceNeg, Int.reduceToNat, Int.reducePow, Int.reduceMod, Int.reduceDiv, Int.reduceSub, Int.reduceAdd, Int.reduceMul, Nat.reduceMul, Nat.reduceSub, Nat.reducePow, c_nat_Add_b1, h1]) | (simp (disch := omega) only [wrap_i64, iaddr_D, rd_iptr, toNat_sub_one, toNat_add_one, sl_hi, sl_lo, iaddr_own, kM_new]))
    obtain rfl : i = A.length := by omega
    rw [List.take_length, List.take_of_length_le ht] at he
    exact Post.some ⟨_, _, _, _, rfl, H, hd, hl, hc, he⟩
  | m + 1, i, h, l, c, hm, H, hd, hl, hc, he => by
    rw [s_loopc G T (c := c_nat_Add_l1) rfl]
    have h1 : (i : Int) < (A.length : Int) := by omega
    have e7 : (i : Int) + 1 = ((i + 1 : Nat) : Int) := by omega
    have hx := hA.dg i
    have hy := hB.dg i
    have hil : i < l.length := by omega
    have hb := bits_Add32 (G := G) (T := T) hT (x := dg A i) (y := dg B i) (w := c) (d := (dg A i + dg B i + c) % 4294967296) (z := (dg A i + dg B i + c) / 4294967296) hx hy hc (Nat.mod_lt _ (by decide)) (by omega) (by omega)
    have key : val ((l.set i ((dg A i + dg B i + c) % 4294967296)).take (i + 1)) + 4294967296 ^ (i + 1) * ((dg A i + dg B i + c) / 4294967296) = val (A.take (i + 1)) + val (B.take (i + 1)) := by
      rw [val_set_take hil, val_take_succ', val_take_succ', Nat.pow_succ, Nat.mul_assoc, Nat.add_assoc, ← Nat.mul_add, Nat.mod_add_div, Nat.mul_add, Nat.mul_add]
      omega
    have hz : (dg A i + dg B i + c) / 4294967296 ≤ 1 := by omega
    have hm1 : (dg A i + dg B i + c) % 4294967296 < 4294967296 := Nat.mod_lt _ (by decide)
    by_cases h2 : (i : Int) < (B.length : Int)
    · repeat (first | (simp (maxSteps := 1000000) only [evB, if_true, if_false, ne_eq, Nat.reduceEqDiff, Nat.reduceAdd, reduceCtorEq, Int.reduceLE, Int.reduceLT, Int.reduceEq, Int.reduceNeg, Int.reduceToNat, Int.reducePow, Int.reduceMod, Int.reduceDiv, Int.reduceSub, Int.reduceAdd, Int.reduceMul, Nat.reduceMul, Nat.reduceSub, Nat.reducePow, c_nat_Add_b1, h1, h2, hb, e7 ]) | (simp (disch := omega) only [wrap_i64, iaddr_D, rd_iptr, toNat_sub_one, toNat_add_one, sl_hi, sl_lo, iaddr_own, kM_new,  store_n H]))
      exact nAdd_loop hT hA hB hs ht m (i + 1) _ _ _ (by omega) (H.put _) (Dg_set hd hm1) (by rw [List.length_set]; exact hl) hz key
    · have hg : dg B i = 0 := dg_ge (by omega)
      rw [hg] at hb key hz hm1
      rw [cast0] at hb
      repeat (first | (simp (maxSteps := 1000000) only [evB, if_true, if_false, ne_eq, Nat.reduceEqDiff, Nat.reduceAdd, reduceCtorEq, Int.reduceLE, Int.reduceLT, Int.reduceEq, Int.reduceNeg, Int.reduceToNat, Int.reducePow, Int.reduceMod, Int.reduceDiv, Int.reduceSub, Int.reduceAdd, Int.reduceMul, Nat.reduceMul, Nat.reduceSub, Nat.reducePow, c_nat_Add_b1, h1, h2, hb, e7 ]) | (simp (disch := omega) only [wrap_i64, iaddr_D, rd_iptr, toNat_sub_one, toNat_add_one, sl_hi, sl_lo, iaddr_own, kM_new,  store_n H]))
      exact nAdd_loop hT hA hB hs ht m (i + 1) _ _ _ (by omega) (H.put _) (Dg_set hd hm1) (by rw [List.length_set]; exact hl) hz key

theorem nSub_loop (hT : HasA g T) {A B : List Nat} {z y : Bool} {b : Nat} (hA : Dg A) (hB : Dg B) (hs : A.length < 17179869184) (ht : B.length ≤ A.length) : ∀ (m i : Nat) (h : Heap) (l : List Nat) (c : Nat),
    m + i = A.length → Holds h b l → Dg l → l.length = A.length → c ≤ 1 → val (l.take i) + val (B.take i) = val (A.take i) + 4294967296 ^ i * c →
    Post (evL G T c_nat_sub_l1 [(0, D z A), (1, D y B), (5, .own b 0 A.length 1), (6, .int .u32 (c : Int)), (13, .int .i64 ((A.length : Nat) : Int)), (14, .int .i64 (i : Int))] h) fun r =>
      ∃ e h' l' c', r = (.exit 0, (0, D z A) :: (1, D y B) :: (5, .own b 0 A.length 1) :: (6, .int .u32 ((c' : Nat) : Int)) :: e, h') ∧ Holds h' b l' ∧ Dg l' ∧ l'.length = A.length ∧ c' ≤ 1 ∧ val l' + val B = val A + 4294967296 ^ A.length * c'
  | 0, i, h, l, c, hm, H, hd, hl, hc, he => by
    rw [s_loopc G T (c := c_nat_sub_l1) rfl]
    have h1 : ¬ (i : Int) < (A.length : Int) := by omega
    repeat (first | (simp (maxSteps := 1000000) only [evB, if_true, if_false, ne_eq, Nat.reduceEqDiff, Nat.reduceAdd, reduceCtorEq, Int.reduceLE, Int.reduceLT, Int.reduceEq, Int.reduceNeg, Int.reduceToNat, Int.reducePow, Int.reduceMod, Int.reduceDiv, Int.reduceSub, Int.reduceAdd, Int.reduceMul, Nat.reduceMul, Nat.reduceSub, Nat.reducePow, c_nat_sub_b1, h1]) | (simp (disch := omega) only [wrap_i64, iaddr_D, rd_iptr, toNat_sub_one, toNat_add_one, sl_hi, sl_lo, iaddr_own, kM_new]))
    obtain rfl : i = A.length := by omega
    rw [List.take_length, List.take_of_length_le ht, List.take_of_length_le (by omega)] at he
    exact Post.some ⟨_, _, _, _, rfl, H, hd, hl, hc, he⟩
  | m + 1, i, h, l, c, hm, H, hd, hl, hc, he => by
    rw [s_loopc G T (c := c_nat_sub_l1) rfl]
    have h1 : (i : Int) < (A.length : Int) := by omega
    have e7 : (i : Int) + 1 = ((i + 1 : Nat) : Int) := by omega
    have hx := hA.dg i
    have hy := hB.dg i
    have hil : i < l.length := by omega
    obtain ⟨d, q, hdq, hd1, hq⟩ : ∃ d q, d + dg B i + c = dg A i + 4294967296 * q ∧ d < 4294967296 ∧ q ≤ 1 := by
      by_cases hlt : dg A i < dg B i + c
      · exact ⟨dg A i + 4294967296 - (dg B i + c), 1, by omega, by omega, by omega⟩
      · exact ⟨dg A i - (dg B i + c), 0, by omega, by omega, by omega⟩
    have hb := bits_Sub32 (G := G) (T := T) hT (x := dg A i) (y := dg B i) (w := c) (d := d) (z := q) hx hy hc hd1 hq hdq
    have key : val ((l.set i d).take (i + 1)) + val (B.take (i + 1)) = val (A.take (i + 1)) + 4294967296 ^ (i + 1) * q := by
      rw [val_set_take hil, val_take_succ', val_take_succ', Nat.pow_succ, Nat.mul_assoc]
      have h2 : 4294967296 ^ i * d + 4294967296 ^ i * dg B i + 4294967296 ^ i * c = 4294967296 ^ i * dg A i + 4294967296 ^ i * (4294967296 * q) := by
        rw [← Nat.mul_add, ← Nat.mul_add, ← Nat.mul_add, hdq]
      omega
    by_cases h2 : (i : Int) < (B.length : Int)
    · repeat (first | (simp (maxSteps := 1000000) only [evB, if_true, if_false, ne_eq, Nat.reduceEqDiff, Nat.reduceAdd, reduceCtorEq, Int.reduceLE, Int.reduceLT, Int.reduceEq, Int.reduceNeg, Int.reduceToNat, Int.reducePow, Int.reduceMod, Int.reduceDiv, Int.reduceSub, Int.reduceAdd, Int.reduceMul, Nat.reduceMul, Nat.reduceSub, Nat.reducePow, c_nat_sub_b1, h1, h2, hb, e7 ]) | (simp (disch := omega) only [wrap_i64, iaddr_D, rd_iptr, toNat_sub_one, toNat_add_one, sl_hi, sl_lo, iaddr_own, kM_new,  store_n H]))
      exact nSub_loop hT hA hB hs ht m (i + 1) _ _ _ (by omega) (H.put _) (Dg_set hd hd1) (by rw [List.length_set]; exact hl) hq key
    · have hg : dg B i = 0 := dg_ge (by omega)
      rw [hg, cast0] at hb
      repeat (first | (simp (maxSteps := 1000000) only [evB, if_true, if_false, ne_eq, Nat.reduceEqDiff, Nat.reduceAdd, reduceCtorEq, Int.reduceLE, Int.reduceLT, Int.reduceEq, Int.reduceNeg, Int.reduceToNat, Int.reducePow, Int.reduceMod, Int.reduceDiv, Int.reduceSub, Int.reduceAdd, Int.reduceMul, Nat.reduceMul, Nat.reduceSub, Nat.reducePow, c_nat_sub_b1, h1, h2, hb, e7 ]) | (simp (disch := omega) only [wrap_i64, iaddr_D, rd_iptr, toNat_sub_one, toNat_add_one, sl_hi, sl_lo, iaddr_own, kM_new,  store_n H]))
      exact nSub_loop hT hA hB hs ht m (i + 1) _ _ _ (by omega) (H.put _) (Dg_set hd hd1) (by rw [List.length_set]; exact hl) hq key

theorem nat_bound (hT : HasA g T) {z : Bool} {l : List Nat} (h : l.length ≤ 4096) : run G T 117 [D z l] = some (.tup [D z l, .int .i64 0]) := by
  rw [run_k G T hT.nat_bound]
  have h1 : ¬ (4096 : Int) < (l.length : Int) := by omega
  repeat (first | (simp (maxSteps := 1000000) only [evB, if_true, if_false, ne_eq, Nat.reduceEqDiff, Nat.reduceAdd, reduceCtorEq, Int.reduceLE, Int.reduceLT, Int.reduceEq, Int.reduceNeg, Int.reduceToNat, Int.reducePow, Int.reduceMod, Int.reduceDiv, Int.reduceSub, Int.reduceAdd, Int.reduceMul, Nat.reduceMul, Nat.reduceSub, Nat.reducePow, c_nat_bound, h1]) | (simp (disch := omega) only [wrap_i64, iaddr_D, rd_iptr, toNat_sub_one, toNat_add_one, sl_hi, sl_lo, iaddr_own, kM_new]))

theorem nat_sub (hT : HasA g T) {z y : Bool} {a b : Nat} (ha : (dl a).length < 17179869184) (hab : b ≤ a) : ∃ z', run G T 116 [D z (dl a), D y (dl b)] = some (D z' (dl (a - b))) := by
  have hlen : (dl b).length ≤ (dl a).length := by
    rw [dl_len]; exact Nat.lt_of_le_of_lt hab (dl_len.1 (Nat.le_refl _))
  obtain ⟨_, hr, e, h', l', c', rfl, H, hd, hl, hc, hv⟩ := nSub_loop (G := G) (T := T) (z := z) (y := y) (b := Heap.nil.b.length) hT (Dg_dl a) (Dg_dl b) ha hlen (dl a).length 0 (new .nil (List.replicate (dl a).length 0)) _ 0 (by omega) (Holds_new FreH.nil _) (Dg_rep _) (by rw [List.length_replicate]) (by omega) (by simp [val])
  rw [cast0] at hr
  rw [val_dl, val_dl] at hv
  have hlt := val_lt hd
  have hc0 : c' = 0 := by
    rcases Nat.eq_zero_or_pos c' with q | q
    · exact q
    · have : c' = 1 := by omega
      rw [this, Nat.mul_one, ← hl] at hv; omega
  rw [hc0, Nat.mul_zero, Nat.add_zero] at hv
  have hv2 : val l' = a - b := by omega
  have hsn := snap_own H (n := (dl a).length) (by omega)
  rw [← hl, List.take_length] at hsn
  obtain ⟨z', hz⟩ := nat_trim (G := G) (T := T) hT (z := false) hd (by omega)
  rw [hl] at hsn
  refine ⟨z', ?_⟩
  rw [run_k G T hT.nat_sub, ← hv2]
  repeat (first | (simp (maxSteps := 1000000) only [evB, if_true, if_false, ne_eq, Nat.reduceEqDiff, Nat.reduceAdd, reduceCtorEq, Int.reduceLE, Int.reduceLT, Int.reduceEq, Int.reduceNeg, Int.reduceToNat, Int.reducePow, Int.reduceMod, Int.reduceDiv, Int.reduceSub, Int.reduceAdd, Int.reduceMul, Nat.reduceMul, Nat.reduceSub, Nat.reducePow, c_nat_sub, hr, hsn, hz]) | (simp (disch := omega) only [wrap_i64, iaddr_D, rd_iptr, toNat_sub_one, toNat_add_one, sl_hi, sl_lo, iaddr_own, kM_new]))

theorem nat_Sub (hT : HasA g T) {z y : Bool} {a b : Nat} (ha : mayL (dl a) = true) (hb : mayL (dl b) = true) (hab : b ≤ a) : ∃ z', run G T 103 [D z (dl a), D y (dl b)] = some (.tup [D z' (dl (a - b)), .int .i64 0]) := by
  have la := (mayL_iff.1 ha).1
  have lb := (mayL_iff.1 hb).1
  have h1 := nat_all (G := G) hT (z := z) (y := y) (a := dl a) (b := dl b)
  rw [ha, hb, Bool.and_self] at h1
  have h2 := nat_cmp (G := G) hT (z := z) (y := y) (a := a) (b := b) (by omega) (by omega)
  have h3 : ¬ cmpN a b < 0 := by rw [cmpN_neg]; omega
  obtain ⟨z', h4⟩ := nat_sub (G := G) (T := T) hT (z := z) (y := y) (a := a) (b := b) (by omega) hab
  refine ⟨z', ?_⟩
  rw [run_k G T hT.nat_Sub]
  repeat' (first | (simp (maxSteps := 1000000) only [evB, if_true, if_false, ne_eq, Nat.reduceEqDiff, Nat.reduceAdd, reduceCtorEq, Int.reduceLE, Int.reduceLT, Int.reduceEq, Int.reduceNeg, Int.reduceToNat, Int.reducePow, Int.reduceMod, Int.reduceDiv, Int.reduceSub, Int.reduceAdd, Int.reduceMul, Nat.reduceMul, Nat.reduceSub, Nat.reducePow, exB, resC_ptr, res_cell, nilb, nilf, faddr_p, c_nat_Sub, h1, h2, h3, h4]) | (simp (maxSteps := 1000000) (disch := first | with_reducible assumption | omega) only [wrap_i64, iaddr_D, rd_iptr, toNat_sub_one, toNat_add_one, sl_hi, sl_lo, iaddr_own, kM_new, sub_cells, setO_cells, sub_pre, ct_fz1, dec_t, dec_f, bv_t, bv_f, tmod_nn, tdiv_nn, bin_shl, bin_shr]) | (simp only [kI_d, kG_dt, kG_df]; split) | (simp only [kI_v, kG_vt, kG_vf]; split))

theorem nat_Cmp (hT : HasA g T) {z y : Bool} {a b : Nat} (ha : mayL (dl a) = true) (hb : mayL (dl b) = true) : run G T 104 [D z (dl a), D y (dl b)] = some (.tup [.int .i64 (cmpN a b), .int .i64 0]) := by
  have la := (mayL_iff.1 ha).1
  have lb := (mayL_iff.1 hb).1
  have h1 := nat_all (G := G) hT (z := z) (y := y) (a := dl a) (b := dl b)
  rw [ha, hb, Bool.and_self] at h1
  have h2 := nat_cmp (G := G) hT (z := z) (y := y) (a := a) (b := b) (by omega) (by omega)
  rw [run_k G T hT.nat_Cmp]
  repeat' (first | (simp (maxSteps := 1000000) only [evB, if_true, if_false, ne_eq, Nat.reduceEqDiff, Nat.reduceAdd, reduceCtorEq, Int.reduceLE, Int.reduceLT, Int.reduceEq, Int.reduceNeg, Int.reduceToNat, Int.reducePow, Int.reduceMod, Int.reduceDiv, Int.reduceSub, Int.reduceAdd, Int.reduceMul, Nat.reduceMul, Nat.reduceSub, Nat.reducePow, exB, resC_ptr, res_cell, nilb, nilf, faddr_p, c_nat_Cmp, h1, h2]) | (simp (maxSteps := 1000000) (disch := first | with_reducible assumption | omega) only [wrap_i64, iaddr_D, rd_iptr, toNat_sub_one, toNat_add_one, sl_hi, sl_lo, iaddr_own, kM_new, sub_cells, setO_cells, sub_pre, ct_fz1, dec_t, dec_f, bv_t, bv_f, tmod_nn, tdiv_nn, bin_shl, bin_shr]) | (simp only [kI_d, kG_dt, kG_df]; split) | (simp only [kI_v, kG_vt, kG_vf]; split))

/-- What comes after the loop of the sum. -/
theorem nat_Add_ord (hT : HasA g T) {z y : Bool} {a b : Nat} (ha : mayL (dl a) = true) (hb : mayL (dl b) = true) (hab : (dl b).length ≤ (dl a).length) (hs : (dl (a + b)).length ≤ 4096) : ∃ z', run G T 105 [D z (dl a), D y (dl b)] = some (.tup [D z' (dl (a + b)), .int .i64 0]) := by
  have la := (mayL_iff.1 ha).1
  have lb := (mayL_iff.1 hb).1
  have h1 := nat_all (G := G) hT (z := z) (y := y) (a := dl a) (b := dl b)
  rw [ha, hb, Bool.and_self] at h1
  have h2 : ¬ ((dl a).length : Int) < ((dl b).length : Int) := by omega
  obtain ⟨_, hr, e, h', l', c', rfl, H, hd, hl, hc, hv⟩ := nAdd_loop (G := G) (T := T) (z := z) (y := y) (b := 1) hT (Dg_dl a) (Dg_dl b) (by omega) hab (dl a).length 0 (new ⟨[⟨[D z (dl a), D y (dl b)], false⟩], fz1 (AV.bool true) [0]⟩ (List.replicate ((dl a).length + 1) 0)) _ 0 (by omega) (Holds_new (h := ⟨[⟨[D z (dl a), D y (dl b)], false⟩], fz1 (AV.bool true) [0]⟩) (fun _ h => absurd h List.not_mem_nil) _) (Dg_rep _) (by rw [List.length_replicate]) (by omega) (by simp [val])
  rw [cast0] at hr
  rw [val_dl, val_dl] at hv
  have hil : (dl a).length < l'.length := by omega
  have hvs := val_set_take (v := c') hil
  rw [hv, List.take_of_length_le (by rw [List.length_set]; omega)] at hvs
  have H2 := H.put (l'.set (dl a).length c')
  have hd2 : Dg (l'.set (dl a).length c') := Dg_set hd (by omega)
  have hl2 : (l'.set (dl a).length c').length = (dl a).length + 1 := by rw [List.length_set]; exact hl
  have hsn := snap_own H2 (n := (dl a).length + 1) (by omega)
  rw [← hl2, List.take_length] at hsn
  obtain ⟨z', hz⟩ := nat_trim (G := G) (T := T) hT (z := false) hd2 (by omega)
  rw [hl2] at hsn
  rw [hvs] at hz
  have hbd := nat_bound (G := G) (T := T) hT (z := z') hs
  have e8 : ((dl a).length : Int) + 1 = (((dl a).length + 1 : Nat) : Int) := by omega
  refine ⟨z', ?_⟩
  rw [run_k G T hT.nat_Add]
  repeat' (first | (simp (maxSteps := 1000000) only [evB, if_true, if_false, ne_eq, Nat.reduceEqDiff, Nat.reduceAdd, reduceCtorEq, Int.reduceLE, Int.reduceLT, Int.reduceEq, Int.reduceNeg, Int.reduceToNat, Int.reducePow, Int.reduceMod, Int.reduceDiv, Int.reduceSub, Int.reduceAdd, Int.reduceMul, Nat.reduceMul, Nat.reduceSub, Nat.reducePow, exB, resC_ptr, res_cell, nilb, nilf, faddr_p, c_nat_Add, h1, h2, e8, hr, hsn, hz, hbd ]) | (simp (maxSteps := 1000000) (disch := first | with_reducible assumption | omega) only [wrap_i64, iaddr_D, rd_iptr, toNat_sub_one, toNat_add_one, sl_hi, sl_lo, iaddr_own, kM_new, sub_cells, setO_cells, sub_pre, ct_fz1, dec_t, dec_f, bv_t, bv_f, tmod_nn, tdiv_nn, bin_shl, bin_shr,  store_n H]) | (simp only [kI_d, kG_dt, kG_df]; split) | (simp only [kI_v, kG_vt, kG_vf]; split))
theorem nat_Add (hT : HasA g T) {z y : Bool} {a b : Nat} (ha : mayL (dl a) = true) (hb : mayL (dl b) = true) (hs : (dl (a + b)).length ≤ 4096) : ∃ z', run G T 105 [D z (dl a), D y (dl b)] = some (.tup [D z' (dl (a + b)), .int .i64 0]) := by
  have la := (mayL_iff.1 ha).1
  have lb := (mayL_iff.1 hb).1
  by_cases hab : (dl b).length ≤ (dl a).length
  · exact nat_Add_ord hT ha hb hab hs
  have h1 := nat_all (G := G) hT (z := z) (y := y) (a := dl a) (b := dl b)
  rw [ha, hb, Bool.and_self] at h1
  have h2 : ((dl a).length : Int) < ((dl b).length : Int) := by omega
  obtain ⟨_, hr, e, h', l', c', rfl, H, hd, hl, hc, hv⟩ := nAdd_loop (G := G) (T := T) (z := y) (y := z) (b := 1) hT (Dg_dl b) (Dg_dl a) (by omega) (by omega) (dl b).length 0 (new ⟨[⟨[D z (dl a), D y (dl b)], false⟩], fz1 (AV.bool true) [0]⟩ (List.replicate ((dl b).length + 1) 0)) _ 0 (by omega) (Holds_new (h := ⟨[⟨[D z (dl a), D y (dl b)], false⟩], fz1 (AV.bool true) [0]⟩) (fun _ h => absurd h List.not_mem_nil) _) (Dg_rep _) (by rw [List.length_replicate]) (by omega) (by simp [val])
  rw [cast0] at hr
  rw [val_dl, val_dl, Nat.add_comm b a] at hv
  have hil : (dl b).length < l'.length := by omega
  have hvs := val_set_take (v := c') hil
  rw [hv, List.take_of_length_le (by rw [List.length_set]; omega)] at hvs
  have H2 := H.put (l'.set (dl b).length c')
  have hd2 : Dg (l'.set (dl b).length c') := Dg_set hd (by omega)
  have hl2 : (l'.set (dl b).length c').length = (dl b).length + 1 := by rw [List.length_set]; exact hl
  have hsn := snap_own H2 (n := (dl b).length + 1) (by omega)
  rw [← hl2, List.take_length] at hsn
  obtain ⟨z', hz⟩ := nat_trim (G := G) (T := T) hT (z := false) hd2 (by omega)
  rw [hl2] at hsn
  rw [hvs] at hz
  have hbd := nat_bound (G := G) (T := T) hT (z := z') hs
  have e8 : ((dl b).length : Int) + 1 = (((dl b).length + 1 : Nat) : Int) := by omega
  refine ⟨z', ?_⟩
  rw [run_k G T hT.nat_Add]
  repeat' (first | (simp (maxSteps := 1000000) only [evB, if_true, if_false, ne_eq, Nat.reduceEqDiff, Nat.reduceAdd, reduceCtorEq, Int.reduceLE, Int.reduceLT, Int.reduceEq, Int.reduceNeg, Int.reduceToNat, Int.reducePow, Int.reduceMod, Int.reduceDiv, Int.reduceSub, Int.reduceAdd, Int.reduceMul, Nat.reduceMul, Nat.reduceSub, Nat.reducePow, exB, resC_ptr, res_cell, nilb, nilf, faddr_p, c_nat_Add, h1, h2, e8, hr, hsn, hz, hbd ]) | (simp (maxSteps := 1000000) (disch := first | with_reducible assumption | omega) only [wrap_i64, iaddr_D, rd_iptr, toNat_sub_one, toNat_add_one, sl_hi, sl_lo, iaddr_own, kM_new, sub_cells, setO_cells, sub_pre, ct_fz1, dec_t, dec_f, bv_t, bv_f, tmod_nn, tdiv_nn, bin_shl, bin_shr,  store_n H]) | (simp only [kI_d, kG_dt, kG_df]; split) | (simp only [kI_v, kG_vt, kG_vf]; split))
end Go.Cv

/-
  The program's dyadic numbers: sums, differences, products.
-/
namespace Go.Cv
variable {G : Nat → Option (List AV)} {T : Tbl} {g : Nat}

theorem blen_mulC {x y a b : Nat} (hx : blen x ≤ a) (hy : blen y ≤ b) : blen (x * y) ≤ a + b := by
  refine blen_le.2 ?_
  rw [Nat.pow_add]
  exact Nat.mul_lt_mul_of_lt_of_lt (blen_le.1 hx) (blen_le.1 hy)
theorem nat_Mul (hA : HasA g T) (hU : HasG g T) {z y : Bool} {a b : Nat} (ha : mayL (dl a) = true) (hb : mayL (dl b) = true) (hs : (dl a).length + (dl b).length ≤ 4096) : ∃ z', run G T 197 [D z (dl a), D y (dl b)] = some (.tup [D z' (dl (a * b)), .int .i64 0]) := by
  have h1 := nat_all (G := G) hA (z := z) (y := y) (a := dl a) (b := dl b)
  rw [ha, hb, Bool.and_self] at h1
  obtain ⟨z', h2⟩ := nat_mul (G := G) (T := T) hA (z := z) (y := y) (a := a) (b := b) (by omega)
  have hl : (dl (a * b)).length ≤ 4096 := by
    have e1 := dl_len.1 (Nat.le_refl (dl a).length)
    have e2 := dl_len.1 (Nat.le_refl (dl b).length)
    have : (dl (a * b)).length ≤ (dl a).length + (dl b).length := by
      rw [dl_len, Nat.pow_add]; exact Nat.mul_lt_mul_of_lt_of_lt e1 e2
    omega
  have h3 := nat_bound (G := G) (T := T) hA (z := z') hl
  have c1 : ¬ (4096 : Int) < ((dl a).length : Int) + ((dl b).length : Int) - 1 := by omega
  refine ⟨z', ?_⟩
  rw [run_k G T hU.nat_Mul]
  by_cases k1 : (0 : Int) < ((dl a).length : Int)
  · by_cases k2 : (0 : Int) < ((dl b).length : Int)
    · repeat' (first | (simp (maxSteps := 1000000) only [evB, if_true, if_false, ne_eq, Nat.reduceEqDiff, Nat.reduceAdd, reduceCtorEq, Int.reduceLE, Int.reduceLT, Int.reduceEq, Int.reduceNeg, Int.reduceToNat, Int.reducePow, Int.reduceMod, Int.reduceDiv, Int.reduceSub, Int.reduceAdd, Int.reduceMul, Nat.reduceMul, Nat.reduceSub, Nat.reducePow, exB, resC_ptr, res_cell, nilb, nilf, faddr_p, c_nat_Mul, h1, h2, h3, c1, k1, k2]) | (simp (maxSteps := 1000000) (disch := first | with_reducible assumption | omega) only [wrap_i64, iaddr_D, rd_iptr, toNat_sub_one, toNat_add_one, sl_hi, sl_lo, iaddr_own, kM_new, sub_cells, setO_cells, sub_pre, ct_fz1, dec_t, dec_f, bv_t, bv_f, tmod_nn, tdiv_nn, bin_shl, bin_shr]) | (simp only [kI_d, kG_dt, kG_df]; split) | (simp only [kI_v, kG_vt, kG_vf]; split))
    · repeat' (first | (simp (maxSteps := 1000000) only [evB, if_true, if_false, ne_eq, Nat.reduceEqDiff, Nat.reduceAdd, reduceCtorEq, Int.reduceLE, Int.reduceLT, Int.reduceEq, Int.reduceNeg, Int.reduceToNat, Int.reducePow, Int.reduceMod, Int.reduceDiv, Int.reduceSub, Int.reduceAdd, Int.reduceMul, Nat.reduceMul, Nat.reduceSub, Nat.reducePow, exB, resC_ptr, res_cell, nilb, nilf, faddr_p, c_nat_Mul, h1, h2, h3, c1, k1, k2]) | (simp (maxSteps := 1000000) (disch := first | with_reducible assumption | omega) only [wrap_i64, iaddr_D, rd_iptr, toNat_sub_one, toNat_add_one, sl_hi, sl_lo, iaddr_own, kM_new, sub_cells, setO_cells, sub_pre, ct_fz1, dec_t, dec_f, bv_t, bv_f, tmod_nn, tdiv_nn, bin_shl, bin_shr]) | (simp only [kI_d, kG_dt, kG_df]; split) | (simp only [kI_v, kG_vt, kG_vf]; split))
  · repeat' (first | (simp (maxSteps := 1000000) only [evB, if_true, if_false, ne_eq, Nat.reduceEqDiff, Nat.reduceAdd, reduceCtorEq, Int.reduceLE, Int.reduceLT, Int.reduceEq, Int.reduceNeg, Int.reduceToNat, Int.reducePow, Int.reduceMod, Int.reduceDiv, Int.reduceSub, Int.reduceAdd, Int.reduceMul, Nat.reduceMul, Nat.reduceSub, Nat.reducePow, exB, resC_ptr, res_cell, nilb, nilf, faddr_p, c_nat_Mul, h1, h2, h3, c1, k1]) | (simp (maxSteps := 1000000) (disch := first | with_reducible assumption | omega) only [wrap_i64, iaddr_D, rd_iptr, toNat_sub_one, toNat_add_one, sl_hi, sl_lo, iaddr_own, kM_new, sub_cells, setO_cells, sub_pre, ct_fz1, dec_t, dec_f, bv_t, bv_f, tmod_nn, tdiv_nn, bin_shl, bin_shr]) | (simp only [kI_d, kG_dt, kG_df]; split) | (simp only [kI_v, kG_vt, kG_vf]; split))

theorem dyad_own (hU : HasG g T) {n z : Bool} {l : List Nat} {e : Int} (hl : l.length < 549755813888) : ∃ z', run G T 205 [A3 n (D z l) e] = some (A3 n (D z' l) e) := by
  apply exP
  rw [run_k G T hU.dyad_own]
  cases l with
  | nil =>
    simp only [A3] at *
    repeat' (first | (simp (maxSteps := 1000000) only [evB, if_true, if_false, ne_eq, Nat.reduceEqDiff, Nat.reduceAdd, reduceCtorEq, Int.reduceLE, Int.reduceLT, Int.reduceEq, Int.reduceNeg, Int.reduceToNat, Int.reducePow, Int.reduceMod, Int.reduceDiv, Int.reduceSub, Int.reduceAdd, Int.reduceMul, Nat.reduceMul, Nat.reduceSub, Nat.reducePow, exB, resC_ptr, res_cell, nilb, nilf, faddr_p, c_dyad_own, app_nil0]) | (simp (maxSteps := 1000000) (disch := first | with_reducible assumption | omega) only [wrap_i64, iaddr_D, rd_iptr, toNat_sub_one, toNat_add_one, sl_hi, sl_lo, iaddr_own, kM_new, sub_cells, setO_cells, sub_pre, ct_fz1, dec_t, dec_f, bv_t, bv_f, tmod_nn, tdiv_nn, bin_shl, bin_shr]) | (simp only [kI_d, kG_dt, kG_df]; split) | (simp only [kI_v, kG_vt, kG_vf]; split))
    exact ⟨_, rfl, true, rfl⟩
  | cons a l =>
    have ha : appV ⟨[⟨[.bool n, D z (a :: l), .int .i64 e], false⟩, ⟨[.bool false, .nil, .int .i64 0], false⟩], []⟩ 1 4 .nil (D z (a :: l)) =
        some (.own 2 0 (a :: l).length 1, ⟨[⟨[.bool n, D z (a :: l), .int .i64 e], false⟩, ⟨[.bool false, .nil, .int .i64 0], false⟩, ⟨cells (a :: l), false⟩], []⟩) :=
      app_nil (h := ⟨[⟨[.bool n, D z (a :: l), .int .i64 e], false⟩, ⟨[.bool false, .nil, .int .i64 0], false⟩], []⟩) (z := z) (l := a :: l) (by simp) hl
    simp only [A3] at *
    have hsub : sub (cells (a :: l)) 0 (l.length + 1) = some (cells (a :: l)) := sub_all (a :: l)
    repeat' (first | (simp (maxSteps := 1000000) only [evB, if_true, if_false, ne_eq, Nat.reduceEqDiff, Nat.reduceAdd, reduceCtorEq, Int.reduceLE, Int.reduceLT, Int.reduceEq, Int.reduceNeg, Int.reduceToNat, Int.reducePow, Int.reduceMod, Int.reduceDiv, Int.reduceSub, Int.reduceAdd, Int.reduceMul, Nat.reduceMul, Nat.reduceSub, Nat.reducePow, exB, resC_ptr, res_cell, nilb, nilf, faddr_p, c_dyad_own, ha, hsub, sl_cells]) | (simp (maxSteps := 1000000) (disch := first | with_reducible assumption | omega) only [wrap_i64, iaddr_D, rd_iptr, toNat_sub_one, toNat_add_one, sl_hi, sl_lo, iaddr_own, kM_new, sub_cells, setO_cells, sub_pre, ct_fz1, dec_t, dec_f, bv_t, bv_f, tmod_nn, tdiv_nn, bin_shl, bin_shr]) | (simp only [kI_d, kG_dt, kG_df]; split) | (simp only [kI_v, kG_vt, kG_vf]; split))
    exact ⟨_, rfl, false, rfl⟩

theorem dyad_signed (hU : HasG g T) {n z s : Bool} {l : List Nat} {e : Int} (hl : l.length < 549755813888) : ∃ z', run G T 198 [A3 n (D z l) e, .bool s] = some (A3 (s && decide (0 < l.length)) (D z' l) e) := by
  obtain ⟨z', h1⟩ := dyad_own (G := G) (T := T) hU (n := n) (z := z) (l := l) (e := e) hl
  refine ⟨z', ?_⟩
  rw [run_k G T hU.dyad_signed]
  have e1 : decide ((0 : Int) < (l.length : Int)) = decide (0 < l.length) := by congr 1; apply propext; omega
  simp only [A3] at *
  cases s <;> (repeat' (first | (simp (maxSteps := 1000000) only [evB, if_true, if_false, ne_eq, Nat.reduceEqDiff, Nat.reduceAdd, reduceCtorEq, Int.reduceLE, Int.reduceLT, Int.reduceEq, Int.reduceNeg, Int.reduceToNat, Int.reducePow, Int.reduceMod, Int.reduceDiv, Int.reduceSub, Int.reduceAdd, Int.reduceMul, Nat.reduceMul, Nat.reduceSub, Nat.reducePow, exB, resC_ptr, res_cell, nilb, nilf, faddr_p, c_dyad_signed, h1, e1]) | (simp (maxSteps := 1000000) (disch := first | with_reducible assumption | omega) only [wrap_i64, iaddr_D, rd_iptr, toNat_sub_one, toNat_add_one, sl_hi, sl_lo, iaddr_own, kM_new, sub_cells, setO_cells, sub_pre, ct_fz1, dec_t, dec_f, bv_t, bv_f, tmod_nn, tdiv_nn, bin_shl, bin_shr]) | (simp only [kI_d, kG_dt, kG_df]; split) | (simp only [kI_v, kG_vt, kG_vf]; split)); all_goals try rfl)

theorem dyad_Neg (hA : HasA g T) (hC : HasC g T) (hU : HasG g T) {z : Bool} {d : Dy} (hd : mayD d.n (dl d.m) d.e = true) : ∃ z', run G T 184 [DyA z d] = some (.tup [DyA z' (negD d), .int .i64 0]) := by
  obtain ⟨f1, f2, f3, f4, f5⟩ := mayD_facts hd
  have hl := (mayL_iff.1 f1).1
  have h1 := dyad_May (G := G) (T := T) hA hC d.n z (Dg_dl d.m) d.e
  rw [hd] at h1
  obtain ⟨z', h2⟩ := dyad_signed (G := G) (T := T) hU (n := d.n) (z := z) (s := !d.n) (l := dl d.m) (e := d.e) (by omega)
  refine ⟨z', ?_⟩
  have hv : A3 (!d.n && decide (0 < (dl d.m).length)) (D z' (dl d.m)) d.e = DyA z' (negD d) := by
    by_cases h0 : d.m = 0
    · have hz := f2 (dl_len0.2 h0)
      unfold negD
      rw [if_pos h0, DyA, hz.1, h0, dl_zero]; rfl
    · rw [neg_nm h0]
      have : 0 < (dl d.m).length := Nat.pos_of_ne_zero (fun hc => h0 (dl_len0.1 hc))
      rw [decide_eq_true this, Bool.and_true]; rfl
  rw [hv] at h2
  rw [run_k G T hU.dyad_Neg]
  obtain ⟨n, m, e⟩ := d
  simp only [DyA, A3] at *
  cases n <;> (simp only [Bool.not_true, Bool.not_false] at h2; repeat' (first | (simp (maxSteps := 1000000) only [evB, if_true, if_false, ne_eq, Nat.reduceEqDiff, Nat.reduceAdd, reduceCtorEq, Int.reduceLE, Int.reduceLT, Int.reduceEq, Int.reduceNeg, Int.reduceToNat, Int.reducePow, Int.reduceMod, Int.reduceDiv, Int.reduceSub, Int.reduceAdd, Int.reduceMul, Nat.reduceMul, Nat.reduceSub, Nat.reducePow, exB, resC_ptr, res_cell, nilb, nilf, faddr_p, c_dyad_Neg, h1, h2]) | (simp (maxSteps := 1000000) (disch := first | with_reducible assumption | omega) only [wrap_i64, iaddr_D, rd_iptr, toNat_sub_one, toNat_add_one, sl_hi, sl_lo, iaddr_own, kM_new, sub_cells, setO_cells, sub_pre, ct_fz1, dec_t, dec_f, bv_t, bv_f, tmod_nn, tdiv_nn, bin_shl, bin_shr]) | (simp only [kI_d, kG_dt, kG_df]; split) | (simp only [kI_v, kG_vt, kG_vf]; split)))

/-- The sum of two sizes with signs. -/
def joinD (p : Bool) (x : Nat) (q : Bool) (y : Nat) (e : Int) : Dy := if p = q then mkD p (x + y) e else if y ≤ x then mkD p (x - y) e else mkD q (y - x) e

theorem mk_rng {m : Nat} {e : Int} (hb : blen m ≤ 131072) (he : -16000000 < e ∧ e < 16000000) : m = 0 ∨ (-16777216 ≤ e + (tz m : Int) ∧ e + (tz m : Int) ≤ 16777216) := by
  by_cases h0 : m = 0
  · exact Or.inl h0
  · right; have := tz_blen h0; omega

theorem blen_add {x y : Nat} {K : Nat} (hx : blen x ≤ K) (hy : blen y ≤ K) : blen (x + y) ≤ K + 1 := by
  refine blen_le.2 ?_
  have h1 := blen_le.1 hx
  have h2 := blen_le.1 hy
  rw [Nat.pow_succ]; omega

theorem dyad_join (hA : HasA g T) (hG : Glob G g) (hC : HasC g T) (hU : HasG g T) {p q z y : Bool} {x w : Nat} {e : Int} (hx : blen x ≤ 131071) (hw : blen w ≤ 131071) (he : -16000000 < e ∧ e < 16000000) :
    ∃ z', run G T 208 [.bool p, D z (dl x), .bool q, D y (dl w), .int .i64 e] = some (.tup [DyA z' (joinD p x q w e), .int .i64 0]) := by
  have mx : mayL (dl x) = true := mayL_small (by omega)
  have mw : mayL (dl w) = true := mayL_small (by omega)
  have hxw := blen_add hx hw
  by_cases h1 : p = q
  · have hl := dl_len_blen (x + w)
    obtain ⟨z1, a1⟩ := nat_Add (G := G) (T := T) hA (z := z) (y := y) (a := x) (b := w) mx mw (by omega)
    obtain ⟨z2, a2⟩ := dyad_Make (G := G) (T := T) hA hG hC (n := p) (z := z1) (a := x + w) (e := e) (mayL_small (by omega)) (mk_rng (by omega) he) (by omega)
    refine ⟨z2, ?_⟩
    unfold joinD
    rw [if_pos h1, run_k G T hU.dyad_join]
    simp only [DyA, A3] at *
    subst h1
    cases p <;> repeat' (first | (simp (maxSteps := 1000000) only [evB, if_true, if_false, ne_eq, Nat.reduceEqDiff, Nat.reduceAdd, reduceCtorEq, Int.reduceLE, Int.reduceLT, Int.reduceEq, Int.reduceNeg, Int.reduceToNat, Int.reducePow, Int.reduceMod, Int.reduceDiv, Int.reduceSub, Int.reduceAdd, Int.reduceMul, Nat.reduceMul, Nat.reduceSub, Nat.reducePow, exB, resC_ptr, res_cell, nilb, nilf, faddr_p, c_dyad_join, a1, a2]) | (simp (maxSteps := 1000000) (disch := first | with_reducible assumption | omega) only [wrap_i64, iaddr_D, rd_iptr, toNat_sub_one, toNat_add_one, sl_hi, sl_lo, iaddr_own, kM_new, sub_cells, setO_cells, sub_pre, ct_fz1, dec_t, dec_f, bv_t, bv_f, tmod_nn, tdiv_nn, bin_shl, bin_shr]) | (simp only [kI_d, kG_dt, kG_df]; split) | (simp only [kI_v, kG_vt, kG_vf]; split))
  · have c0 := nat_Cmp (G := G) (T := T) hA (z := z) (y := y) (a := x) (b := w) mx mw
    by_cases h2 : w ≤ x
    · have hb := blen_mono (Nat.sub_le x w)
      have c1 : ¬ cmpN x w < 0 := by rw [cmpN_neg]; omega
      obtain ⟨z1, a1⟩ := nat_Sub (G := G) (T := T) hA (z := z) (y := y) (a := x) (b := w) mx mw h2
      obtain ⟨z2, a2⟩ := dyad_Make (G := G) (T := T) hA hG hC (n := p) (z := z1) (a := x - w) (e := e) (mayL_small (by omega)) (mk_rng (by omega) he) (by omega)
      refine ⟨z2, ?_⟩
      unfold joinD
      rw [if_neg h1, if_pos h2, run_k G T hU.dyad_join]
      simp only [DyA, A3] at *
      cases p <;> cases q <;> first | (exact absurd rfl h1) | (repeat' (first | (simp (maxSteps := 1000000) only [evB, if_true, if_false, ne_eq, Nat.reduceEqDiff, Nat.reduceAdd, reduceCtorEq, Int.reduceLE, Int.reduceLT, Int.reduceEq, Int.reduceNeg, Int.reduceToNat, Int.reducePow, Int.reduceMod, Int.reduceDiv, Int.reduceSub, Int.reduceAdd, Int.reduceMul, Nat.reduceMul, Nat.reduceSub, Nat.reducePow, exB, resC_ptr, res_cell, nilb, nilf, faddr_p, c_dyad_join, c0, c1, a1, a2]) | (simp (maxSteps := 1000000) (disch := first | with_reducible assumption | omega) only [wrap_i64, iaddr_D, rd_iptr, toNat_sub_one, toNat_add_one, sl_hi, sl_lo, iaddr_own, kM_new, sub_cells, setO_cells, sub_pre, ct_fz1, dec_t, dec_f, bv_t, bv_f, tmod_nn, tdiv_nn, bin_shl, bin_shr]) | (simp only [kI_d, kG_dt, kG_df]; split) | (simp only [kI_v, kG_vt, kG_vf]; split)))
    · have hb := blen_mono (Nat.sub_le w x)
      have c1 : cmpN x w < 0 := by rw [cmpN_neg]; omega
      obtain ⟨z1, a1⟩ := nat_Sub (G := G) (T := T) hA (z := y) (y := z) (a := w) (b := x) mw mx (by omega)
      obtain ⟨z2, a2⟩ := dyad_Make (G := G) (T := T) hA hG hC (n := q) (z := z1) (a := w - x) (e := e) (mayL_small (by omega)) (mk_rng (by omega) he) (by omega)
      refine ⟨z2, ?_⟩
      unfold joinD
      rw [if_neg h1, if_neg h2, run_k G T hU.dyad_join]
      simp only [DyA, A3] at *
      cases p <;> cases q <;> first | (exact absurd rfl h1) | (repeat' (first | (simp (maxSteps := 1000000) only [evB, if_true, if_false, ne_eq, Nat.reduceEqDiff, Nat.reduceAdd, reduceCtorEq, Int.reduceLE, Int.reduceLT, Int.reduceEq, Int.reduceNeg, Int.reduceToNat, Int.reducePow, Int.reduceMod, Int.reduceDiv, Int.reduceSub, Int.reduceAdd, Int.reduceMul, Nat.reduceMul, Nat.reduceSub, Nat.reducePow, exB, resC_ptr, res_cell, nilb, nilf, faddr_p, c_dyad_join, c0, c1, a1, a2]) | (simp (maxSteps := 1000000) (disch := first | with_reducible assumption | omega) only [wrap_i64, iaddr_D, rd_iptr, toNat_sub_one, toNat_add_one, sl_hi, sl_lo, iaddr_own, kM_new, sub_cells, setO_cells, sub_pre, ct_fz1, dec_t, dec_f, bv_t, bv_f, tmod_nn, tdiv_nn, bin_shl, bin_shr]) | (simp only [kI_d, kG_dt, kG_df]; split) | (simp only [kI_v, kG_vt, kG_vf]; split)))

theorem joinD_add {a b : Dy} (ha : a.m ≠ 0) (hb : b.m ≠ 0) (he : b.e ≤ a.e) : joinD a.n (a.m * 2 ^ (a.e - b.e).toNat) b.n b.m b.e = addD a b := by
  unfold joinD addD
  rw [if_neg ha, if_neg hb, Int.min_eq_right he, show (b.e - b.e).toNat = 0 by omega, Nat.pow_zero, Nat.mul_one]

theorem dyad_add_ord (hA : HasA g T) (hG : Glob G g) (hC : HasC g T) (hU : HasG g T) {z y : Bool} {a b : Dy} (ha : Bd a 16384) (hb : Bd b 16384) (na : a.m ≠ 0) (nb : b.m ≠ 0) (he : b.e ≤ a.e) :
    ∃ z', run G T 203 [DyA z a, DyA y b] = some (.tup [DyA z' (addD a b), .int .i64 0]) := by
  obtain ⟨a1, a2, a3⟩ := ha
  obtain ⟨b1, b2, b3⟩ := hb
  have ma : mayL (dl a.m) = true := mayL_small (by omega)
  have l1 := nat_Len (G := G) (T := T) hA (z := z) ma
  obtain ⟨z1, s1⟩ := nat_Shift_up (G := G) (T := T) hA (z := z) (a := a.m) (n := (a.e - b.e).toNat) ma (Or.inr (by omega)) (by omega)
  rw [show (((a.e - b.e).toNat : Nat) : Int) = a.e - b.e by omega] at s1
  have hbl := blen_mul na (a.e - b.e).toNat
  obtain ⟨z2, j1⟩ := dyad_join (G := G) (T := T) hA hG hC hU (p := a.n) (q := b.n) (z := z1) (y := y) (x := a.m * 2 ^ (a.e - b.e).toNat) (w := b.m) (e := b.e) (by omega) (by omega) (by omega)
  rw [joinD_add na nb he] at j1
  have c1 : ¬ ((dl a.m).length : Int) = 0 := fun hc => na (dl_len0.1 (by omega))
  have c2 : ¬ ((dl b.m).length : Int) = 0 := fun hc => nb (dl_len0.1 (by omega))
  have c3 : ¬ a.e < b.e := by omega
  have w1 : IntKind.i64.wrap (a.e - b.e) = a.e - b.e := wrap_i64 (by omega)
  have w2 : IntKind.i64.wrap (a.e - b.e + (blen a.m : Int)) = a.e - b.e + (blen a.m : Int) := wrap_i64 (by omega)
  have c4 : ¬ (131073 : Int) < a.e - b.e + (blen a.m : Int) := by omega
  have c5 : ¬ (131072 : Int) < a.e - b.e + (blen a.m : Int) := by omega
  refine ⟨z2, ?_⟩
  rw [run_k G T hU.dyad_add]
  generalize addD a b = d at *
  obtain ⟨n, m, e⟩ := a
  obtain ⟨n', m', e'⟩ := b
  clear hbl a1 a2 a3 b1 b2 b3
  simp only [DyA, A3] at *
  repeat' (first | (simp (maxSteps := 1000000) only [evB, if_true, if_false, ne_eq, Nat.reduceEqDiff, Nat.reduceAdd, reduceCtorEq, Int.reduceLE, Int.reduceLT, Int.reduceEq, Int.reduceNeg, Int.reduceToNat, Int.reducePow, Int.reduceMod, Int.reduceDiv, Int.reduceSub, Int.reduceAdd, Int.reduceMul, Nat.reduceMul, Nat.reduceSub, Nat.reducePow, exB, resC_ptr, res_cell, nilb, nilf, faddr_p, c_dyad_add, c1, c2, c3, c4, c5, w1, w2, l1, s1, j1]) | (simp (maxSteps := 1000000) (disch := first | with_reducible assumption | omega) only [wrap_i64, iaddr_D, rd_iptr, toNat_sub_one, toNat_add_one, sl_hi, sl_lo, iaddr_own, kM_new, sub_cells, setO_cells, sub_pre, ct_fz1, dec_t, dec_f, bv_t, bv_f, tmod_nn, tdiv_nn, bin_shl, bin_shr]) | (simp only [kI_d, kG_dt, kG_df]; split) | (simp only [kI_v, kG_vt, kG_vf]; split))

theorem dyad_add (hA : HasA g T) (hG : Glob G g) (hC : HasC g T) (hU : HasG g T) {z y : Bool} {a b : Dy} (ha : Bd a 16384) (hb : Bd b 16384) (za : Nz a) (zb : Nz b) :
    ∃ z', run G T 203 [DyA z a, DyA y b] = some (.tup [DyA z' (addD a b), .int .i64 0]) := by
  by_cases na : a.m = 0
  · have hl := dl_len_blen b.m
    have hbl := hb.bl
    obtain ⟨z1, h1⟩ := dyad_own (G := G) (T := T) hU (n := b.n) (z := y) (l := dl b.m) (e := b.e) (by omega)
    have c1 : ((dl a.m).length : Int) = 0 := by have := dl_len0.2 na; omega
    refine ⟨z1, ?_⟩
    rw [run_k G T hU.dyad_add]
    unfold addD
    rw [if_pos na]
    obtain ⟨n, m, e⟩ := a
    obtain ⟨n', m', e'⟩ := b
    simp only [DyA, A3] at *
    repeat' (first | (simp (maxSteps := 1000000) only [evB, if_true, if_false, ne_eq, Nat.reduceEqDiff, Nat.reduceAdd, reduceCtorEq, Int.reduceLE, Int.reduceLT, Int.reduceEq, Int.reduceNeg, Int.reduceToNat, Int.reducePow, Int.reduceMod, Int.reduceDiv, Int.reduceSub, Int.reduceAdd, Int.reduceMul, Nat.reduceMul, Nat.reduceSub, Nat.reducePow, exB, resC_ptr, res_cell, nilb, nilf, faddr_p, c_dyad_add, c1, h1]) | (simp (maxSteps := 1000000) (disch := first | with_reducible assumption | omega) only [wrap_i64, iaddr_D, rd_iptr, toNat_sub_one, toNat_add_one, sl_hi, sl_lo, iaddr_own, kM_new, sub_cells, setO_cells, sub_pre, ct_fz1, dec_t, dec_f, bv_t, bv_f, tmod_nn, tdiv_nn, bin_shl, bin_shr]) | (simp only [kI_d, kG_dt, kG_df]; split) | (simp only [kI_v, kG_vt, kG_vf]; split))
  · by_cases nb : b.m = 0
    · have hl := dl_len_blen a.m
      have hbl := ha.bl
      obtain ⟨z1, h1⟩ := dyad_own (G := G) (T := T) hU (n := a.n) (z := z) (l := dl a.m) (e := a.e) (by omega)
      have c1 : ¬ ((dl a.m).length : Int) = 0 := fun hc => na (dl_len0.1 (by omega))
      have c2 : ((dl b.m).length : Int) = 0 := by have := dl_len0.2 nb; omega
      refine ⟨z1, ?_⟩
      rw [run_k G T hU.dyad_add]
      unfold addD
      rw [if_neg na, if_pos nb]
      obtain ⟨n, m, e⟩ := a
      obtain ⟨n', m', e'⟩ := b
      simp only [DyA, A3] at *
      repeat' (first | (simp (maxSteps := 1000000) only [evB, if_true, if_false, ne_eq, Nat.reduceEqDiff, Nat.reduceAdd, reduceCtorEq, Int.reduceLE, Int.reduceLT, Int.reduceEq, Int.reduceNeg, Int.reduceToNat, Int.reducePow, Int.reduceMod, Int.reduceDiv, Int.reduceSub, Int.reduceAdd, Int.reduceMul, Nat.reduceMul, Nat.reduceSub, Nat.reducePow, exB, resC_ptr, res_cell, nilb, nilf, faddr_p, c_dyad_add, c1, c2, h1]) | (simp (maxSteps := 1000000) (disch := first | with_reducible assumption | omega) only [wrap_i64, iaddr_D, rd_iptr, toNat_sub_one, toNat_add_one, sl_hi, sl_lo, iaddr_own, kM_new, sub_cells, setO_cells, sub_pre, ct_fz1, dec_t, dec_f, bv_t, bv_f, tmod_nn, tdiv_nn, bin_shl, bin_shr]) | (simp only [kI_d, kG_dt, kG_df]; split) | (simp only [kI_v, kG_vt, kG_vf]; split))
    · by_cases he : b.e ≤ a.e
      · exact dyad_add_ord hA hG hC hU ha hb na nb he
      · obtain ⟨a1, a2, a3⟩ := ha
        obtain ⟨b1, b2, b3⟩ := hb
        have mb : mayL (dl b.m) = true := mayL_small (by omega)
        have l1 := nat_Len (G := G) (T := T) hA (z := y) mb
        obtain ⟨z1, s1⟩ := nat_Shift_up (G := G) (T := T) hA (z := y) (a := b.m) (n := (b.e - a.e).toNat) mb (Or.inr (by omega)) (by omega)
        rw [show (((b.e - a.e).toNat : Nat) : Int) = b.e - a.e by omega] at s1
        have hbl := blen_mul nb (b.e - a.e).toNat
        obtain ⟨z2, j1⟩ := dyad_join (G := G) (T := T) hA hG hC hU (p := b.n) (q := a.n) (z := z1) (y := z) (x := b.m * 2 ^ (b.e - a.e).toNat) (w := a.m) (e := a.e) (by omega) (by omega) (by omega)
        rw [joinD_add nb na (by omega), addD_comm zb za] at j1
        have c1 : ¬ ((dl a.m).length : Int) = 0 := fun hc => na (dl_len0.1 (by omega))
        have c2 : ¬ ((dl b.m).length : Int) = 0 := fun hc => nb (dl_len0.1 (by omega))
        have c3 : a.e < b.e := by omega
        have w1 : IntKind.i64.wrap (b.e - a.e) = b.e - a.e := wrap_i64 (by omega)
        have w2 : IntKind.i64.wrap (b.e - a.e + (blen b.m : Int)) = b.e - a.e + (blen b.m : Int) := wrap_i64 (by omega)
        have c4 : ¬ (131073 : Int) < b.e - a.e + (blen b.m : Int) := by omega
        have c5 : ¬ (131072 : Int) < b.e - a.e + (blen b.m : Int) := by omega
        refine ⟨z2, ?_⟩
        rw [run_k G T hU.dyad_add]
        generalize addD a b = d at *
        obtain ⟨n, m, e⟩ := a
        obtain ⟨n', m', e'⟩ := b
        clear hbl a1 a2 a3 b1 b2 b3
        simp only [DyA, A3] at *
        repeat' (first | (simp (maxSteps := 1000000) only [evB, if_true, if_false, ne_eq, Nat.reduceEqDiff, Nat.reduceAdd, reduceCtorEq, Int.reduceLE, Int.reduceLT, Int.reduceEq, Int.reduceNeg, Int.reduceToNat, Int.reducePow, Int.reduceMod, Int.reduceDiv, Int.reduceSub, Int.reduceAdd, Int.reduceMul, Nat.reduceMul, Nat.reduceSub, Nat.reducePow, exB, resC_ptr, res_cell, nilb, nilf, faddr_p, c_dyad_add, c1, c2, c3, c4, c5, w1, w2, l1, s1, j1]) | (simp (maxSteps := 1000000) (disch := first | with_reducible assumption | omega) only [wrap_i64, iaddr_D, rd_iptr, toNat_sub_one, toNat_add_one, sl_hi, sl_lo, iaddr_own, kM_new, sub_cells, setO_cells, sub_pre, ct_fz1, dec_t, dec_f, bv_t, bv_f, tmod_nn, tdiv_nn, bin_shl, bin_shr]) | (simp only [kI_d, kG_dt, kG_df]; split) | (simp only [kI_v, kG_vt, kG_vf]; split))

theorem dyad_Add (hA : HasA g T) (hG : Glob G g) (hC : HasC g T) (hU : HasG g T) {z y : Bool} {a b : Dy} (ha : Bd a 16384) (hb : Bd b 16384) (da : mayD a.n (dl a.m) a.e = true) (db : mayD b.n (dl b.m) b.e = true) :
    ∃ z', run G T 195 [DyA z a, DyA y b] = some (.tup [DyA z' (addD a b), .int .i64 0]) := by
  have h1 := dyad_both (G := G) (T := T) hA hC (n := a.n) (z := z) (n' := b.n) (z' := y) (Dg_dl a.m) (Dg_dl b.m) (e := a.e) (e' := b.e)
  rw [da, db, Bool.and_self] at h1
  obtain ⟨z', h2⟩ := dyad_add (G := G) (T := T) hA hG hC hU (z := z) (y := y) ha hb (mayD_nz da) (mayD_nz db)
  refine ⟨z', ?_⟩
  rw [run_k G T hU.dyad_Add]
  generalize addD a b = d at *
  obtain ⟨n, m, e⟩ := a
  obtain ⟨n', m', e'⟩ := b
  simp only [DyA, A3] at *
  repeat' (first | (simp (maxSteps := 1000000) only [evB, if_true, if_false, ne_eq, Nat.reduceEqDiff, Nat.reduceAdd, reduceCtorEq, Int.reduceLE, Int.reduceLT, Int.reduceEq, Int.reduceNeg, Int.reduceToNat, Int.reducePow, Int.reduceMod, Int.reduceDiv, Int.reduceSub, Int.reduceAdd, Int.reduceMul, Nat.reduceMul, Nat.reduceSub, Nat.reducePow, exB, resC_ptr, res_cell, nilb, nilf, faddr_p, c_dyad_Add, h1, h2]) | (simp (maxSteps := 1000000) (disch := first | with_reducible assumption | omega) only [wrap_i64, iaddr_D, rd_iptr, toNat_sub_one, toNat_add_one, sl_hi, sl_lo, iaddr_own, kM_new, sub_cells, setO_cells, sub_pre, ct_fz1, dec_t, dec_f, bv_t, bv_f, tmod_nn, tdiv_nn, bin_shl, bin_shr]) | (simp only [kI_d, kG_dt, kG_df]; split) | (simp only [kI_v, kG_vt, kG_vf]; split))

theorem dyad_Mul (hA : HasA g T) (hG : Glob G g) (hC : HasC g T) (hU : HasG g T) {z y : Bool} {a b : Dy} (ha : Bd a 16384) (hb : Bd b 16384) (da : mayD a.n (dl a.m) a.e = true) (db : mayD b.n (dl b.m) b.e = true) :
    ∃ z', run G T 182 [DyA z a, DyA y b] = some (.tup [DyA z' (mulD a b), .int .i64 0]) := by
  have h1 := dyad_both (G := G) (T := T) hA hC (n := a.n) (z := z) (n' := b.n) (z' := y) (Dg_dl a.m) (Dg_dl b.m) (e := a.e) (e' := b.e)
  rw [da, db, Bool.and_self] at h1
  obtain ⟨a1, a2, a3⟩ := ha
  obtain ⟨b1, b2, b3⟩ := hb
  have hl1 := dl_len_blen a.m
  have hl2 := dl_len_blen b.m
  obtain ⟨z1, h2⟩ := nat_Mul (G := G) (T := T) hA hU (z := z) (y := y) (a := a.m) (b := b.m) (mayL_small (by omega)) (mayL_small (by omega)) (by omega)
  have hb : blen (a.m * b.m) ≤ 32768 := by have := blen_mulC a1 b1; omega
  obtain ⟨z2, h3⟩ := dyad_Make (G := G) (T := T) hA hG hC (n := a.n != b.n) (z := z1) (a := a.m * b.m) (e := a.e + b.e) (mayL_small (by omega)) (mk_rng (by omega) (by omega)) (by omega)
  have w1 : IntKind.i64.wrap (a.e + b.e) = a.e + b.e := wrap_i64 (by omega)
  refine ⟨z2, ?_⟩
  rw [run_k G T hU.dyad_Mul]
  unfold mulD
  clear hb
  obtain ⟨n, m, e⟩ := a
  obtain ⟨n', m', e'⟩ := b
  have hne : (n != n') = !decide (n = n') := by cases n <;> cases n' <;> rfl
  simp only at *
  rw [hne] at h3 ⊢
  simp only [DyA, A3] at *
  repeat' (first | (simp (maxSteps := 1000000) only [evB, if_true, if_false, ne_eq, Nat.reduceEqDiff, Nat.reduceAdd, reduceCtorEq, Int.reduceLE, Int.reduceLT, Int.reduceEq, Int.reduceNeg, Int.reduceToNat, Int.reducePow, Int.reduceMod, Int.reduceDiv, Int.reduceSub, Int.reduceAdd, Int.reduceMul, Nat.reduceMul, Nat.reduceSub, Nat.reducePow, exB, resC_ptr, res_cell, nilb, nilf, faddr_p, c_dyad_Mul, h1, h2, w1, h3]) | (simp (maxSteps := 1000000) (disch := first | with_reducible assumption | omega) only [wrap_i64, iaddr_D, rd_iptr, toNat_sub_one, toNat_add_one, sl_hi, sl_lo, iaddr_own, kM_new, sub_cells, setO_cells, sub_pre, ct_fz1, dec_t, dec_f, bv_t, bv_f, tmod_nn, tdiv_nn, bin_shl, bin_shr]) | (simp only [kI_d, kG_dt, kG_df]; split) | (simp only [kI_v, kG_vt, kG_vf]; split))
end Go.Cv

/-
  The program's words: fields, classes, values.
-/
namespace Go.Cv
variable {G : Nat → Option (List AV)} {T : Tbl} {g : Nat}

theorem andn_nat {w k : Nat} (hk : k < 64) (hw : w < 2 ^ (k + 1)) : w &&& (2 ^ 64 - (2 ^ k + 1)) = w % 2 ^ k := by
  apply Nat.eq_of_testBit_eq
  intro i
  have hp : (2 : Nat) ^ k < 2 ^ 64 := Nat.pow_lt_pow_right (by decide) hk
  rw [Nat.testBit_and, Nat.testBit_mod_two_pow, Nat.testBit_two_pow_sub_succ hp, Nat.testBit_two_pow]
  by_cases h1 : i < k
  · rw [decide_eq_true h1, decide_eq_true (show i < 64 by omega), decide_eq_false (show ¬ k = i by omega)]; simp
  · rw [decide_eq_false h1]
    by_cases h2 : i = k
    · rw [decide_eq_true h2.symm]; simp
    · have : w.testBit i = false := Nat.testBit_lt_two_pow (Nat.lt_of_lt_of_le hw (Nat.pow_le_pow_right (by decide) (by omega)))
      rw [this]; simp
theorem andn64 {w k : Nat} (hk : k < 64) (hw : w < 2 ^ (k + 1)) : andNotI .u64 (w : Int) ((2 ^ k : Nat) : Int) = ((w % 2 ^ k : Nat) : Int) := by
  have hp : (2 : Nat) ^ k < 2 ^ 64 := Nat.pow_lt_pow_right (by decide) hk
  have hw2 : w < 2 ^ 64 := Nat.lt_of_lt_of_le hw (Nat.pow_le_pow_right (by decide) (by omega))
  have hlt : w % 2 ^ k < 2 ^ k := Nat.mod_lt _ (Nat.two_pow_pos k)
  rw [andNotI_eq]
  show IntKind.u64.wrap ((BitVec.ofInt 64 (w : Int) &&& ~~~BitVec.ofInt 64 ((2 ^ k : Nat) : Int)).toNat : Int) = _
  rw [show BitVec.ofInt 64 (w : Int) = BitVec.ofNat 64 w from rfl, show BitVec.ofInt 64 ((2 ^ k : Nat) : Int) = BitVec.ofNat 64 (2 ^ k) from rfl, BitVec.toNat_and, BitVec.toNat_not, BitVec.toNat_ofNat, BitVec.toNat_ofNat, Nat.mod_eq_of_lt hw2, Nat.mod_eq_of_lt hp,
    show 2 ^ 64 - 1 - 2 ^ k = 2 ^ 64 - (2 ^ k + 1) by omega, andn_nat hk hw, wrap_u64]
  omega
theorem andn_s {w : Nat} (h : w < 4294967296) : andNotI .u64 (w : Int) 2147483648 = ((w % 2147483648 : Nat) : Int) := andn64 (k := 31) (by decide) h
theorem andn_d {w : Nat} (h : w < 18446744073709551616) : andNotI .u64 (w : Int) 9223372036854775808 = ((w % 9223372036854775808 : Nat) : Int) := andn64 (k := 63) (by decide) h
theorem and_pow_lo {w k : Nat} (hw : w < 2 ^ k) : w &&& 2 ^ k = 0 := by
  apply Nat.eq_of_testBit_eq
  intro i
  rw [Nat.testBit_and, Nat.testBit_two_pow, Nat.zero_testBit]
  by_cases h : k = i
  · subst h; rw [Nat.testBit_lt_two_pow hw]; rfl
  · rw [decide_eq_false h, Bool.and_false]
theorem and_pow_hi {w k : Nat} (h1 : 2 ^ k ≤ w) (hw : w < 2 ^ (k + 1)) : w &&& 2 ^ k = 2 ^ k := by
  apply Nat.eq_of_testBit_eq
  intro i
  rw [Nat.testBit_and, Nat.testBit_two_pow]
  rw [Nat.pow_succ] at hw
  by_cases h : k = i
  · subst h
    have : w / 2 ^ k = 1 := Nat.div_eq_of_lt_le (by omega) (by omega)
    rw [Nat.testBit_eq_decide_div_mod_eq, this]; rfl
  · rw [decide_eq_false h, Bool.and_false]
theorem and_bit {w k : Nat} (hk : k < 64) (hw : w < 2 ^ (k + 1)) : andI .u64 (w : Int) ((2 ^ k : Nat) : Int) = if 2 ^ k ≤ w then ((2 ^ k : Nat) : Int) else 0 := by
  have hp : (2 : Nat) ^ k < 2 ^ 64 := Nat.pow_lt_pow_right (by decide) hk
  have hw2 : w < 2 ^ 64 := Nat.lt_of_lt_of_le hw (Nat.pow_le_pow_right (by decide) (by omega))
  rw [and64 (by omega) (by omega)]
  by_cases h : 2 ^ k ≤ w
  · rw [if_pos h, and_pow_hi h hw]
  · rw [if_neg h, and_pow_lo (by omega)]; rfl
theorem and_s {w : Nat} (h : w < 4294967296) : andI .u64 (w : Int) 2147483648 = if 2147483648 ≤ w then 2147483648 else 0 := and_bit (k := 31) (by decide) h
theorem and_d {w : Nat} (h : w < 18446744073709551616) : andI .u64 (w : Int) 9223372036854775808 = if 9223372036854775808 ≤ w then 9223372036854775808 else 0 := and_bit (k := 63) (by decide) h
theorem and_ms {w : Nat} (h : w < 18446744073709551616) : andI .u64 (w : Int) 8388607 = ((w % 8388608 : Nat) : Int) := and_mask (j := 23) h (by decide)
theorem and_md {w : Nat} (h : w < 18446744073709551616) : andI .u64 (w : Int) 4503599627370495 = ((w % 4503599627370496 : Nat) : Int) := and_mask (j := 52) h (by decide)
theorem or_s : orI .u64 2147483648 2147483647 = 4294967295 := by rw [orI_eq]; rfl
theorem or_d : orI .u64 9223372036854775808 9223372036854775807 = 18446744073709551615 := by rw [orI_eq]; rfl
theorem or_ns : orI .u64 2139095040 4194304 = 2143289344 := by rw [orI_eq]; rfl
theorem or_nd : orI .u64 9218868437227405312 2251799813685248 = 9221120237041090560 := by rw [orI_eq]; rfl

theorem wop_loop (e : Env) (h : Heap) : evL G T c_word_open_l1 e h = kS G T (evL G T c_word_open_b1 (keepE [4, 6, 18, 19, 20] e) h) c_word_open_l1 := s_loopc G T rfl e h
theorem ia11 (x : AV) (k : IntKind) : iaddrV 1 (.imm 1 [x]) (.int k 0) = some (.iptr [x] 0) := rfl
theorem rd11 (h : Mem) (x : AV) : rdAt G h 1 (.iptr [x] 0) = some [x] := rfl

theorem word_open1 (hT : HasD g T) (F : Fm) {w : Nat} (hw : w < 18446744073709551616) : run G T 95 [.int .u8 F.u, .imm 1 [.int .u64 (w : Int)]] = some (.tup [shA F, .int .i64 (if w < 2 * F.sg then 0 else 6)]) := by
  rw [run_k G T hT.word_open]
  have h1 := word_shapeOf (G := G) hT F
  have wr : IntKind.i64.wrap 1 = 1 := rfl
  by_cases hk : w < 2 * F.sg
  · rw [if_pos hk]
    cases F
    · simp only [shA, Fm.u, Fm.fr, Fm.sg, Fm.most, Int.cast_ofNat_Int, Nat.reduceMul] at *
      have c1 : ¬ (4294967295 : Int) < (w : Int) := by omega
      repeat' (first | (simp (maxSteps := 1000000) only [evB, if_true, if_false, ne_eq, Nat.reduceEqDiff, Nat.reduceAdd, reduceCtorEq, Int.reduceLE, Int.reduceLT, Int.reduceEq, Int.reduceNeg, Int.reduceToNat, Int.reducePow, Int.reduceMod, Int.reduceDiv, Int.reduceSub, Int.reduceAdd, Int.reduceMul, Nat.reduceMul, Nat.reduceSub, Nat.reducePow, exB, resC_ptr, res_cell, nilb, nilf, faddr_p, c_word_open, h1, wop_loop, c_word_open_b1, ia11, rd11, or_s, or_d, c1, wr]) | (simp (maxSteps := 1000000) (disch := first | with_reducible assumption | omega) only [wrap_i64, iaddr_D, rd_iptr, toNat_sub_one, toNat_add_one, sl_hi, sl_lo, iaddr_own, kM_new, sub_cells, setO_cells, sub_pre, ct_fz1, dec_t, dec_f, bv_t, bv_f, tmod_nn, tdiv_nn, bin_shl, bin_shr]) | (simp only [kI_d, kG_dt, kG_df]; split) | (simp only [kI_v, kG_vt, kG_vf]; split))
    · simp only [shA, Fm.u, Fm.fr, Fm.sg, Fm.most, Int.cast_ofNat_Int, Nat.reduceMul] at *
      have c1 : ¬ (18446744073709551615 : Int) < (w : Int) := by omega
      repeat' (first | (simp (maxSteps := 1000000) only [evB, if_true, if_false, ne_eq, Nat.reduceEqDiff, Nat.reduceAdd, reduceCtorEq, Int.reduceLE, Int.reduceLT, Int.reduceEq, Int.reduceNeg, Int.reduceToNat, Int.reducePow, Int.reduceMod, Int.reduceDiv, Int.reduceSub, Int.reduceAdd, Int.reduceMul, Nat.reduceMul, Nat.reduceSub, Nat.reducePow, exB, resC_ptr, res_cell, nilb, nilf, faddr_p, c_word_open, h1, wop_loop, c_word_open_b1, ia11, rd11, or_s, or_d, c1, wr]) | (simp (maxSteps := 1000000) (disch := first | with_reducible assumption | omega) only [wrap_i64, iaddr_D, rd_iptr, toNat_sub_one, toNat_add_one, sl_hi, sl_lo, iaddr_own, kM_new, sub_cells, setO_cells, sub_pre, ct_fz1, dec_t, dec_f, bv_t, bv_f, tmod_nn, tdiv_nn, bin_shl, bin_shr]) | (simp only [kI_d, kG_dt, kG_df]; split) | (simp only [kI_v, kG_vt, kG_vf]; split))
  · rw [if_neg hk]
    cases F
    · simp only [shA, Fm.u, Fm.fr, Fm.sg, Fm.most, Int.cast_ofNat_Int, Nat.reduceMul] at *
      have c1 : (4294967295 : Int) < (w : Int) := by omega
      repeat' (first | (simp (maxSteps := 1000000) only [evB, if_true, if_false, ne_eq, Nat.reduceEqDiff, Nat.reduceAdd, reduceCtorEq, Int.reduceLE, Int.reduceLT, Int.reduceEq, Int.reduceNeg, Int.reduceToNat, Int.reducePow, Int.reduceMod, Int.reduceDiv, Int.reduceSub, Int.reduceAdd, Int.reduceMul, Nat.reduceMul, Nat.reduceSub, Nat.reducePow, exB, resC_ptr, res_cell, nilb, nilf, faddr_p, c_word_open, h1, wop_loop, c_word_open_b1, ia11, rd11, or_s, or_d, c1, wr]) | (simp (maxSteps := 1000000) (disch := first | with_reducible assumption | omega) only [wrap_i64, iaddr_D, rd_iptr, toNat_sub_one, toNat_add_one, sl_hi, sl_lo, iaddr_own, kM_new, sub_cells, setO_cells, sub_pre, ct_fz1, dec_t, dec_f, bv_t, bv_f, tmod_nn, tdiv_nn, bin_shl, bin_shr]) | (simp only [kI_d, kG_dt, kG_df]; split) | (simp only [kI_v, kG_vt, kG_vf]; split))
    · simp only [Fm.sg] at hk; omega

theorem cls_spec (F : Fm) (w : Nat) : (F.ex w = 0 ∧ F.fc w = 0 ∧ F.cls w = 1) ∨ (F.ex w = 0 ∧ F.fc w ≠ 0 ∧ F.cls w = 2) ∨ (F.ex w ≠ 0 ∧ F.ex w < F.most ∧ F.cls w = 3) ∨ (F.ex w ≠ 0 ∧ ¬ F.ex w < F.most ∧ F.fc w = 0 ∧ F.cls w = 4) ∨ (F.ex w ≠ 0 ∧ ¬ F.ex w < F.most ∧ F.fc w ≠ 0 ∧ F.cls w = 5) := by
  unfold Fm.cls
  generalize F.ex w = x
  generalize F.fc w = y
  repeat' split
  all_goals omega
theorem ng_spec (F : Fm) (w : Nat) : (F.ng w = true ∧ F.sg ≤ w) ∨ (F.ng w = false ∧ w < F.sg) := by
  unfold Fm.ng
  by_cases h : F.sg ≤ w
  · left; exact ⟨decide_eq_true h, h⟩
  · right; exact ⟨decide_eq_false h, by omega⟩

theorem word_class (hD : HasD g T) (hU : HasG g T) (F : Fm) {w : Nat} (hw : w < 2 * F.sg) : run G T 201 [shA F, .int .u64 (w : Int)] = some (.int .u8 (F.cls w)) := by
  rw [run_k G T hU.word_shape_class]
  obtain ⟨q1, q2, q3, q4⟩ := w_split hw
  have hc := cls_spec F w
  have hlt : w % F.sg < F.sg := Nat.mod_lt _ (by cases F <;> decide)
  clear q1
  generalize F.cls w = c at *
  generalize F.ex w = x at *
  generalize F.fc w = y at *
  cases F
  · have h2 := andn_s (w := w) hw
    have hi := word_inf (G := G) (T := T) hD .s
    simp only [shA, Fm.u, Fm.fr, Fm.sg, Fm.most, Int.cast_ofNat_Int, Nat.reducePow, Nat.reduceMul] at *
    generalize w % 2147483648 = s at *
    repeat' (first | (simp (maxSteps := 1000000) only [evB, if_true, if_false, ne_eq, Nat.reduceEqDiff, Nat.reduceAdd, reduceCtorEq, Int.reduceLE, Int.reduceLT, Int.reduceEq, Int.reduceNeg, Int.reduceToNat, Int.reducePow, Int.reduceMod, Int.reduceDiv, Int.reduceSub, Int.reduceAdd, Int.reduceMul, Nat.reduceMul, Nat.reduceSub, Nat.reducePow, exB, resC_ptr, res_cell, nilb, nilf, faddr_p, c_word_shape_class, h2, hi]) | (simp (maxSteps := 1000000) (disch := first | with_reducible assumption | omega) only [wrap_i64, iaddr_D, rd_iptr, toNat_sub_one, toNat_add_one, sl_hi, sl_lo, iaddr_own, kM_new, sub_cells, setO_cells, sub_pre, ct_fz1, dec_t, dec_f, bv_t, bv_f, tmod_nn, tdiv_nn, bin_shl, bin_shr]) | (simp only [kI_d, kG_dt, kG_df]; split) | (simp only [kI_v, kG_vt, kG_vf]; split))
    all_goals (refine some_int ?_; omega)
  · have h2 := andn_d (w := w) hw
    have hi := word_inf (G := G) (T := T) hD .d
    simp only [shA, Fm.u, Fm.fr, Fm.sg, Fm.most, Int.cast_ofNat_Int, Nat.reducePow, Nat.reduceMul] at *
    generalize w % 9223372036854775808 = s at *
    repeat' (first | (simp (maxSteps := 1000000) only [evB, if_true, if_false, ne_eq, Nat.reduceEqDiff, Nat.reduceAdd, reduceCtorEq, Int.reduceLE, Int.reduceLT, Int.reduceEq, Int.reduceNeg, Int.reduceToNat, Int.reducePow, Int.reduceMod, Int.reduceDiv, Int.reduceSub, Int.reduceAdd, Int.reduceMul, Nat.reduceMul, Nat.reduceSub, Nat.reducePow, exB, resC_ptr, res_cell, nilb, nilf, faddr_p, c_word_shape_class, h2, hi]) | (simp (maxSteps := 1000000) (disch := first | with_reducible assumption | omega) only [wrap_i64, iaddr_D, rd_iptr, toNat_sub_one, toNat_add_one, sl_hi, sl_lo, iaddr_own, kM_new, sub_cells, setO_cells, sub_pre, ct_fz1, dec_t, dec_f, bv_t, bv_f, tmod_nn, tdiv_nn, bin_shl, bin_shr]) | (simp only [kI_d, kG_dt, kG_df]; split) | (simp only [kI_v, kG_vt, kG_vf]; split))
    all_goals (refine some_int ?_; omega)

theorem word_split (hU : HasG g T) (F : Fm) {w : Nat} (hw : w < 2 * F.sg) : run G T 200 [shA F, .int .u64 (w : Int)] = some (fldA (F.ng w) (F.ex w) (F.fc w)) := by
  rw [run_k G T hU.word_shape_split]
  have hlt : w % F.sg < F.sg := Nat.mod_lt _ (by cases F <;> decide)
  have hn := ng_spec F w
  have e2 : w % F.sg / 2 ^ F.fr = F.ex w := rfl
  have e3 : w % F.sg % 2 ^ F.fr = F.fc w := rfl
  have q4 := (w_split hw).2.2.2
  generalize F.ng w = n at *
  generalize F.ex w = x at *
  generalize F.fc w = y at *
  cases F
  · have h2 := andn_s (w := w) hw
    have h4 := and_s (w := w) hw
    simp only [shA, Fm.u, Fm.fr, Fm.sg, Fm.most, fldA, Int.cast_ofNat_Int, Nat.reducePow] at *
    generalize w % 2147483648 = s at *
    have h5 := and_ms (w := s) (by omega)
    rw [e3] at h5
    have w1 : (s : Int) / 8388608 = (x : Int) := by omega
    rcases hn with ⟨rfl, hn⟩ | ⟨rfl, hn⟩
    · rw [if_pos hn] at h4
      repeat' (first | (simp (maxSteps := 1000000) only [evB, if_true, if_false, ne_eq, Nat.reduceEqDiff, Nat.reduceAdd, reduceCtorEq, Int.reduceLE, Int.reduceLT, Int.reduceEq, Int.reduceNeg, Int.reduceToNat, Int.reducePow, Int.reduceMod, Int.reduceDiv, Int.reduceSub, Int.reduceAdd, Int.reduceMul, Nat.reduceMul, Nat.reduceSub, Nat.reducePow, exB, resC_ptr, res_cell, nilb, nilf, faddr_p, c_word_shape_split, h2, h4, h5, w1]) | (simp (maxSteps := 1000000) (disch := first | with_reducible assumption | omega) only [wrap_i64, iaddr_D, rd_iptr, toNat_sub_one, toNat_add_one, sl_hi, sl_lo, iaddr_own, kM_new, sub_cells, setO_cells, sub_pre, ct_fz1, dec_t, dec_f, bv_t, bv_f, tmod_nn, tdiv_nn, bin_shl, bin_shr]) | (simp only [kI_d, kG_dt, kG_df]; split) | (simp only [kI_v, kG_vt, kG_vf]; split))
    · rw [if_neg (by omega)] at h4
      repeat' (first | (simp (maxSteps := 1000000) only [evB, if_true, if_false, ne_eq, Nat.reduceEqDiff, Nat.reduceAdd, reduceCtorEq, Int.reduceLE, Int.reduceLT, Int.reduceEq, Int.reduceNeg, Int.reduceToNat, Int.reducePow, Int.reduceMod, Int.reduceDiv, Int.reduceSub, Int.reduceAdd, Int.reduceMul, Nat.reduceMul, Nat.reduceSub, Nat.reducePow, exB, resC_ptr, res_cell, nilb, nilf, faddr_p, c_word_shape_split, h2, h4, h5, w1]) | (simp (maxSteps := 1000000) (disch := first | with_reducible assumption | omega) only [wrap_i64, iaddr_D, rd_iptr, toNat_sub_one, toNat_add_one, sl_hi, sl_lo, iaddr_own, kM_new, sub_cells, setO_cells, sub_pre, ct_fz1, dec_t, dec_f, bv_t, bv_f, tmod_nn, tdiv_nn, bin_shl, bin_shr]) | (simp only [kI_d, kG_dt, kG_df]; split) | (simp only [kI_v, kG_vt, kG_vf]; split))
  · have h2 := andn_d (w := w) hw
    have h4 := and_d (w := w) hw
    simp only [shA, Fm.u, Fm.fr, Fm.sg, Fm.most, fldA, Int.cast_ofNat_Int, Nat.reducePow] at *
    generalize w % 9223372036854775808 = s at *
    have h5 := and_md (w := s) (by omega)
    rw [e3] at h5
    have w1 : (s : Int) / 4503599627370496 = (x : Int) := by omega
    rcases hn with ⟨rfl, hn⟩ | ⟨rfl, hn⟩
    · rw [if_pos hn] at h4
      repeat' (first | (simp (maxSteps := 1000000) only [evB, if_true, if_false, ne_eq, Nat.reduceEqDiff, Nat.reduceAdd, reduceCtorEq, Int.reduceLE, Int.reduceLT, Int.reduceEq, Int.reduceNeg, Int.reduceToNat, Int.reducePow, Int.reduceMod, Int.reduceDiv, Int.reduceSub, Int.reduceAdd, Int.reduceMul, Nat.reduceMul, Nat.reduceSub, Nat.reducePow, exB, resC_ptr, res_cell, nilb, nilf, faddr_p, c_word_shape_split, h2, h4, h5, w1]) | (simp (maxSteps := 1000000) (disch := first | with_reducible assumption | omega) only [wrap_i64, iaddr_D, rd_iptr, toNat_sub_one, toNat_add_one, sl_hi, sl_lo, iaddr_own, kM_new, sub_cells, setO_cells, sub_pre, ct_fz1, dec_t, dec_f, bv_t, bv_f, tmod_nn, tdiv_nn, bin_shl, bin_shr]) | (simp only [kI_d, kG_dt, kG_df]; split) | (simp only [kI_v, kG_vt, kG_vf]; split))
    · rw [if_neg (by omega)] at h4
      repeat' (first | (simp (maxSteps := 1000000) only [evB, if_true, if_false, ne_eq, Nat.reduceEqDiff, Nat.reduceAdd, reduceCtorEq, Int.reduceLE, Int.reduceLT, Int.reduceEq, Int.reduceNeg, Int.reduceToNat, Int.reducePow, Int.reduceMod, Int.reduceDiv, Int.reduceSub, Int.reduceAdd, Int.reduceMul, Nat.reduceMul, Nat.reduceSub, Nat.reducePow, exB, resC_ptr, res_cell, nilb, nilf, faddr_p, c_word_shape_split, h2, h4, h5, w1]) | (simp (maxSteps := 1000000) (disch := first | with_reducible assumption | omega) only [wrap_i64, iaddr_D, rd_iptr, toNat_sub_one, toNat_add_one, sl_hi, sl_lo, iaddr_own, kM_new, sub_cells, setO_cells, sub_pre, ct_fz1, dec_t, dec_f, bv_t, bv_f, tmod_nn, tdiv_nn, bin_shl, bin_shr]) | (simp only [kI_d, kG_dt, kG_df]; split) | (simp only [kI_v, kG_vt, kG_vf]; split))

theorem sg_64 {F : Fm} {w : Nat} (h : w < 2 * F.sg) : w < 18446744073709551616 := by
  have : 2 * F.sg ≤ 18446744073709551616 := by cases F <;> decide
  omega

theorem word_Class (hD : HasD g T) (hU : HasG g T) (F : Fm) {w : Nat} (hw : w < 2 * F.sg) : run G T 193 [.int .u8 F.u, .int .u64 (w : Int)] = some (.tup [.int .u8 (F.cls w), .int .i64 0]) := by
  rw [run_k G T hU.word_Class]
  have h1 := word_open1 (G := G) (T := T) hD F (sg_64 hw)
  rw [if_pos hw] at h1
  have h2 := word_class (G := G) (T := T) hD hU F hw
  generalize F.cls w = c at *
  simp only [shA] at *
  repeat' (first | (simp (maxSteps := 1000000) only [evB, if_true, if_false, ne_eq, Nat.reduceEqDiff, Nat.reduceAdd, reduceCtorEq, Int.reduceLE, Int.reduceLT, Int.reduceEq, Int.reduceNeg, Int.reduceToNat, Int.reducePow, Int.reduceMod, Int.reduceDiv, Int.reduceSub, Int.reduceAdd, Int.reduceMul, Nat.reduceMul, Nat.reduceSub, Nat.reducePow, exB, resC_ptr, res_cell, nilb, nilf, faddr_p, c_word_Class, h1, h2]) | (simp (maxSteps := 1000000) (disch := first | with_reducible assumption | omega) only [wrap_i64, iaddr_D, rd_iptr, toNat_sub_one, toNat_add_one, sl_hi, sl_lo, iaddr_own, kM_new, sub_cells, setO_cells, sub_pre, ct_fz1, dec_t, dec_f, bv_t, bv_f, tmod_nn, tdiv_nn, bin_shl, bin_shr]) | (simp only [kI_d, kG_dt, kG_df]; split) | (simp only [kI_v, kG_vt, kG_vf]; split))

theorem word_Split (hD : HasD g T) (hU : HasG g T) (F : Fm) {w : Nat} (hw : w < 2 * F.sg) : run G T 192 [.int .u8 F.u, .int .u64 (w : Int)] = some (.tup [fldA (F.ng w) (F.ex w) (F.fc w), .int .i64 0]) := by
  rw [run_k G T hU.word_Split]
  have h1 := word_open1 (G := G) (T := T) hD F (sg_64 hw)
  rw [if_pos hw] at h1
  have h2 := word_split (G := G) (T := T) hU F hw
  generalize F.ng w = n at *
  generalize F.ex w = x at *
  generalize F.fc w = y at *
  simp only [shA, fldA] at *
  repeat' (first | (simp (maxSteps := 1000000) only [evB, if_true, if_false, ne_eq, Nat.reduceEqDiff, Nat.reduceAdd, reduceCtorEq, Int.reduceLE, Int.reduceLT, Int.reduceEq, Int.reduceNeg, Int.reduceToNat, Int.reducePow, Int.reduceMod, Int.reduceDiv, Int.reduceSub, Int.reduceAdd, Int.reduceMul, Nat.reduceMul, Nat.reduceSub, Nat.reducePow, exB, resC_ptr, res_cell, nilb, nilf, faddr_p, c_word_Split, h1, h2]) | (simp (maxSteps := 1000000) (disch := first | with_reducible assumption | omega) only [wrap_i64, iaddr_D, rd_iptr, toNat_sub_one, toNat_add_one, sl_hi, sl_lo, iaddr_own, kM_new, sub_cells, setO_cells, sub_pre, ct_fz1, dec_t, dec_f, bv_t, bv_f, tmod_nn, tdiv_nn, bin_shl, bin_shr]) | (simp only [kI_d, kG_dt, kG_df]; split) | (simp only [kI_v, kG_vt, kG_vf]; split))
theorem word_Split_bad (hD : HasD g T) (hU : HasG g T) (F : Fm) {w : Nat} (hw : w < 18446744073709551616) (hb : ¬ w < 2 * F.sg) : run G T 192 [.int .u8 F.u, .int .u64 (w : Int)] = some (.tup [fldA false 0 0, .int .i64 6]) := by
  rw [run_k G T hU.word_Split]
  have h1 := word_open1 (G := G) (T := T) hD F hw
  rw [if_neg hb] at h1
  simp only [shA, fldA] at *
  repeat' (first | (simp (maxSteps := 1000000) only [evB, if_true, if_false, ne_eq, Nat.reduceEqDiff, Nat.reduceAdd, reduceCtorEq, Int.reduceLE, Int.reduceLT, Int.reduceEq, Int.reduceNeg, Int.reduceToNat, Int.reducePow, Int.reduceMod, Int.reduceDiv, Int.reduceSub, Int.reduceAdd, Int.reduceMul, Nat.reduceMul, Nat.reduceSub, Nat.reducePow, exB, resC_ptr, res_cell, nilb, nilf, faddr_p, c_word_Split, h1]) | (simp (maxSteps := 1000000) (disch := first | with_reducible assumption | omega) only [wrap_i64, iaddr_D, rd_iptr, toNat_sub_one, toNat_add_one, sl_hi, sl_lo, iaddr_own, kM_new, sub_cells, setO_cells, sub_pre, ct_fz1, dec_t, dec_f, bv_t, bv_f, tmod_nn, tdiv_nn, bin_shl, bin_shr]) | (simp only [kI_d, kG_dt, kG_df]; split) | (simp only [kI_v, kG_vt, kG_vf]; split))

theorem word_finite (hD : HasD g T) (hU : HasG g T) (F : Fm) {w : Nat} (hw : w < 2 * F.sg) : run G T 202 [.int .u8 F.u, .int .u64 (w : Int)] = some (.tup [shA F, .int .i64 (if F.fin w then 0 else 7)]) := by
  rw [run_k G T hU.word_finite]
  have h1 := word_open1 (G := G) (T := T) hD F (sg_64 hw)
  rw [if_pos hw] at h1
  have h2 := word_class (G := G) (T := T) hD hU F hw
  have h3 := fin_iff (F := F) (w := w)
  have h4 := cls_range F w
  by_cases hf : F.fin w
  · rw [if_pos hf]
    have h5 := h3.1 hf
    clear h3
    generalize F.cls w = c at *
    have c1 : ¬ (4 : Int) ≤ c := by omega
    simp only [shA] at *
    repeat' (first | (simp (maxSteps := 1000000) only [evB, if_true, if_false, ne_eq, Nat.reduceEqDiff, Nat.reduceAdd, reduceCtorEq, Int.reduceLE, Int.reduceLT, Int.reduceEq, Int.reduceNeg, Int.reduceToNat, Int.reducePow, Int.reduceMod, Int.reduceDiv, Int.reduceSub, Int.reduceAdd, Int.reduceMul, Nat.reduceMul, Nat.reduceSub, Nat.reducePow, exB, resC_ptr, res_cell, nilb, nilf, faddr_p, c_word_finite, h1, h2, c1]) | (simp (maxSteps := 1000000) (disch := first | with_reducible assumption | omega) only [wrap_i64, iaddr_D, rd_iptr, toNat_sub_one, toNat_add_one, sl_hi, sl_lo, iaddr_own, kM_new, sub_cells, setO_cells, sub_pre, ct_fz1, dec_t, dec_f, bv_t, bv_f, tmod_nn, tdiv_nn, bin_shl, bin_shr]) | (simp only [kI_d, kG_dt, kG_df]; split) | (simp only [kI_v, kG_vt, kG_vf]; split))
  · rw [if_neg hf]
    have h5 : ¬ (F.cls w = 1 ∨ F.cls w = 2 ∨ F.cls w = 3) := fun h => hf (h3.2 h)
    clear h3
    generalize F.cls w = c at *
    have c1 : (4 : Int) ≤ c := by omega
    simp only [shA] at *
    repeat' (first | (simp (maxSteps := 1000000) only [evB, if_true, if_false, ne_eq, Nat.reduceEqDiff, Nat.reduceAdd, reduceCtorEq, Int.reduceLE, Int.reduceLT, Int.reduceEq, Int.reduceNeg, Int.reduceToNat, Int.reducePow, Int.reduceMod, Int.reduceDiv, Int.reduceSub, Int.reduceAdd, Int.reduceMul, Nat.reduceMul, Nat.reduceSub, Nat.reducePow, exB, resC_ptr, res_cell, nilb, nilf, faddr_p, c_word_finite, h1, h2, c1]) | (simp (maxSteps := 1000000) (disch := first | with_reducible assumption | omega) only [wrap_i64, iaddr_D, rd_iptr, toNat_sub_one, toNat_add_one, sl_hi, sl_lo, iaddr_own, kM_new, sub_cells, setO_cells, sub_pre, ct_fz1, dec_t, dec_f, bv_t, bv_f, tmod_nn, tdiv_nn, bin_shl, bin_shr]) | (simp only [kI_d, kG_dt, kG_df]; split) | (simp only [kI_v, kG_vt, kG_vf]; split))

theorem or_fr {y k : Nat} (h : y < 2 ^ k) (hk : k < 63) : orI .u64 (y : Int) ((2 ^ k : Nat) : Int) = ((2 ^ k + y : Nat) : Int) := by
  have hp : (2 : Nat) ^ k < 2 ^ 64 := Nat.pow_lt_pow_right (by decide) (by omega)
  have e := or_add (c := y) (x := 1) (s := k) h
  rw [Nat.one_mul] at e
  rw [or64 (by omega) (by omega), e, Nat.add_comm]

theorem word_Value (hA : HasA g T) (hG : Glob G g) (hC : HasC g T) (hD : HasD g T) (hU : HasG g T) (F : Fm) {w : Nat} (hw : w < 2 * F.sg) :
    ∃ z k, run G T 194 [.int .u8 F.u, .int .u64 (w : Int)] = some (.tup [DyA z (F.vl w), .int .i64 k]) := by
  have h1 := word_finite (G := G) (T := T) hD hU F hw
  by_cases hf : F.fin w
  · rw [if_pos hf] at h1
    have h2 := word_split (G := G) (T := T) hU F hw
    have h3 := word_low (G := G) (T := T) hD F
    have hy : F.fc w < 2 ^ F.fr := Nat.mod_lt _ (Nat.two_pow_pos _)
    have hp : 2 ^ F.fr ≤ 4503599627370496 := by cases F <;> decide
    have hF := fm_facts F
    have hm : F.most ≤ 2047 := by cases F <;> decide
    have hvl : F.vl w = F.val w := if_pos hf
    rw [hvl]
    unfold Fm.fin at hf
    unfold Fm.val
    have hor := or_fr hy (by omega)
    generalize F.ex w = x at *
    generalize F.fc w = y at *
    generalize F.ng w = n at *
    have hb1 : blen y ≤ 53 := blen_le.2 (by omega)
    have hb2 : blen (2 ^ F.fr + y) ≤ 53 := blen_le.2 (by omega)
    have hmin : min F.fr 64 = F.fr := by omega
    have hp0 := Nat.two_pow_pos F.fr
    by_cases h0 : x = 0
    · subst h0
      obtain ⟨z1, o1⟩ := nat_Of (G := G) (T := T) hA (n := y) (by omega)
      obtain ⟨z2, o2⟩ := dyad_Make (G := G) (T := T) hA hG hC (n := n) (z := z1) (a := y) (e := F.low) (mayL_small (by omega)) (mk_rng (by omega) (by omega)) (by omega)
      have w1 : max (0 : Int) 1 = 1 := by decide
      have w2 : IntKind.i64.wrap (1 - 1) = 0 := rfl
      have w3 : IntKind.i64.wrap (0 + F.low) = F.low := by rw [Int.zero_add]; exact wrap_i64 (by omega)
      have w4 : IntKind.i64.wrap F.low = F.low := wrap_i64 (by omega)
      refine ⟨z2, 0, ?_⟩
      rw [if_pos rfl, run_k G T hU.word_Value]
      simp only [shA, fldA, cast0, DyA, A3] at *
      repeat' (first | (simp (maxSteps := 1000000) only [evB, if_true, if_false, ne_eq, Nat.reduceEqDiff, Nat.reduceAdd, reduceCtorEq, Int.reduceLE, Int.reduceLT, Int.reduceEq, Int.reduceNeg, Int.reduceToNat, Int.reducePow, Int.reduceMod, Int.reduceDiv, Int.reduceSub, Int.reduceAdd, Int.reduceMul, Nat.reduceMul, Nat.reduceSub, Nat.reducePow, exB, resC_ptr, res_cell, nilb, nilf, faddr_p, c_word_Value, h1, h2, h3, o1, w1, w2, w3, w4, mm_max2, o2, Int.zero_add]) | (simp (maxSteps := 1000000) (disch := first | with_reducible assumption | omega) only [wrap_i64, iaddr_D, rd_iptr, toNat_sub_one, toNat_add_one, sl_hi, sl_lo, iaddr_own, kM_new, sub_cells, setO_cells, sub_pre, ct_fz1, dec_t, dec_f, bv_t, bv_f, tmod_nn, tdiv_nn, bin_shl, bin_shr]) | (simp only [kI_d, kG_dt, kG_df]; split) | (simp only [kI_v, kG_vt, kG_vf]; split))
    · obtain ⟨z1, o1⟩ := nat_Of (G := G) (T := T) hA (n := 2 ^ F.fr + y) (by omega)
      obtain ⟨z2, o2⟩ := dyad_Make (G := G) (T := T) hA hG hC (n := n) (z := z1) (a := 2 ^ F.fr + y) (e := x - 1 + F.low) (mayL_small (by omega)) (mk_rng (by omega) (by omega)) (by omega)
      have c0 : (0 : Int) < (x : Int) := by omega
      have w1 : max (x : Int) 1 = x := by omega
      have w2 : IntKind.i64.wrap ((x : Int) - 1) = x - 1 := wrap_i64 (by omega)
      have w3 : IntKind.i64.wrap ((x : Int) - 1 + F.low) = x - 1 + F.low := wrap_i64 (by omega)
      have w5 : (1 * (2 : Int) ^ F.fr) % 18446744073709551616 = ((2 ^ F.fr : Nat) : Int) := by rw [pow_cast]; omega
      have w6 : ((2 : Int) ^ F.fr) % 18446744073709551616 = ((2 ^ F.fr : Nat) : Int) := by rw [pow_cast]; omega
      refine ⟨z2, 0, ?_⟩
      rw [if_neg h0, run_k G T hU.word_Value]
      simp only [shA, fldA, DyA, A3] at *
      repeat' (first | (simp (maxSteps := 1000000) only [evB, if_true, if_false, ne_eq, Nat.reduceEqDiff, Nat.reduceAdd, reduceCtorEq, Int.reduceLE, Int.reduceLT, Int.reduceEq, Int.reduceNeg, Int.reduceToNat, Int.reducePow, Int.reduceMod, Int.reduceDiv, Int.reduceSub, Int.reduceAdd, Int.reduceMul, Nat.reduceMul, Nat.reduceSub, Nat.reducePow, exB, resC_ptr, res_cell, nilb, nilf, faddr_p, c_word_Value, h1, h2, h3, c0, hmin, w5, w6, hor, o1, w1, w2, w3, mm_max2, o2]) | (simp (maxSteps := 1000000) (disch := first | with_reducible assumption | omega) only [wrap_i64, iaddr_D, rd_iptr, toNat_sub_one, toNat_add_one, sl_hi, sl_lo, iaddr_own, kM_new, sub_cells, setO_cells, sub_pre, ct_fz1, dec_t, dec_f, bv_t, bv_f, tmod_nn, tdiv_nn, bin_shl, bin_shr]) | (simp only [kI_d, kG_dt, kG_df]; split) | (simp only [kI_v, kG_vt, kG_vf]; split))
  · rw [if_neg hf] at h1
    refine ⟨true, 7, ?_⟩
    have hvl : F.vl w = ⟨false, 0, 0⟩ := if_neg hf
    rw [hvl, run_k G T hU.word_Value]
    simp only [shA, DyA, A3, dl_zero] at *
    repeat' (first | (simp (maxSteps := 1000000) only [evB, if_true, if_false, ne_eq, Nat.reduceEqDiff, Nat.reduceAdd, reduceCtorEq, Int.reduceLE, Int.reduceLT, Int.reduceEq, Int.reduceNeg, Int.reduceToNat, Int.reducePow, Int.reduceMod, Int.reduceDiv, Int.reduceSub, Int.reduceAdd, Int.reduceMul, Nat.reduceMul, Nat.reduceSub, Nat.reducePow, exB, resC_ptr, res_cell, nilb, nilf, faddr_p, c_word_Value, h1]) | (simp (maxSteps := 1000000) (disch := first | with_reducible assumption | omega) only [wrap_i64, iaddr_D, rd_iptr, toNat_sub_one, toNat_add_one, sl_hi, sl_lo, iaddr_own, kM_new, sub_cells, setO_cells, sub_pre, ct_fz1, dec_t, dec_f, bv_t, bv_f, tmod_nn, tdiv_nn, bin_shl, bin_shr]) | (simp only [kI_d, kG_dt, kG_df]; split) | (simp only [kI_v, kG_vt, kG_vf]; split))
    all_goals try rfl

theorem word_none (hU : HasG g T) (hD : HasD g T) (F : Fm) : run G T 204 [shA F] = some (.int .u64 (F.nan : Int)) := by
  rw [run_k G T hU.word_shape_none]
  have h := word_inf (G := G) hD F
  cases F <;> (
    simp only [shA, Fm.u, Fm.fr, Fm.sg, Fm.most, Fm.nan, Int.cast_ofNat_Int, Nat.reducePow, Nat.reduceMul, Nat.reduceSub, Nat.reduceAdd] at *
    repeat' (first | (simp (maxSteps := 1000000) only [evB, if_true, if_false, ne_eq, Nat.reduceEqDiff, Nat.reduceAdd, reduceCtorEq, Int.reduceLE, Int.reduceLT, Int.reduceEq, Int.reduceNeg, Int.reduceToNat, Int.reducePow, Int.reduceMod, Int.reduceDiv, Int.reduceSub, Int.reduceAdd, Int.reduceMul, Nat.reduceMul, Nat.reduceSub, Nat.reducePow, exB, resC_ptr, res_cell, nilb, nilf, faddr_p, c_word_shape_none, h, or_ns, or_nd]) | (simp (maxSteps := 1000000) (disch := first | with_reducible assumption | omega) only [wrap_i64, iaddr_D, rd_iptr, toNat_sub_one, toNat_add_one, sl_hi, sl_lo, iaddr_own, kM_new, sub_cells, setO_cells, sub_pre, ct_fz1, dec_t, dec_f, bv_t, bv_f, tmod_nn, tdiv_nn, bin_shl, bin_shr]) | (simp only [kI_d, kG_dt, kG_df]; split) | (simp only [kI_v, kG_vt, kG_vf]; split)))
theorem word_None (hU : HasG g T) (hD : HasD g T) (F : Fm) : run G T 196 [.int .u8 F.u] = some (.tup [.int .u64 (F.nan : Int), .int .i64 0]) := by
  rw [run_k G T hU.word_None]
  have h := word_named (G := G) hD F (n := false) (k := 204) (word_none hU hD F) (by cases F <;> decide)
  rw [show F.nan + F.sgn false = F.nan from rfl] at h
  repeat' (first | (simp (maxSteps := 1000000) only [evB, if_true, if_false, ne_eq, Nat.reduceEqDiff, Nat.reduceAdd, reduceCtorEq, Int.reduceLE, Int.reduceLT, Int.reduceEq, Int.reduceNeg, Int.reduceToNat, Int.reducePow, Int.reduceMod, Int.reduceDiv, Int.reduceSub, Int.reduceAdd, Int.reduceMul, Nat.reduceMul, Nat.reduceSub, Nat.reducePow, exB, resC_ptr, res_cell, nilb, nilf, faddr_p, c_word_None, h]) | (simp (maxSteps := 1000000) (disch := first | with_reducible assumption | omega) only [wrap_i64, iaddr_D, rd_iptr, toNat_sub_one, toNat_add_one, sl_hi, sl_lo, iaddr_own, kM_new, sub_cells, setO_cells, sub_pre, ct_fz1, dec_t, dec_f, bv_t, bv_f, tmod_nn, tdiv_nn, bin_shl, bin_shr]) | (simp only [kI_d, kG_dt, kG_df]; split) | (simp only [kI_v, kG_vt, kG_vf]; split))
end Go.Cv

/-
  The document's sums, products, quotients, roots of words.
-/
namespace Go.Cv
variable {G : Nat → Option (List AV)} {T : Tbl} {g : Nat}

theorem Nz_mul (a b : Dy) : Nz (mulD a b) := Nz_mk _ _ _
theorem Bd_mul {a b : Dy} {K : Nat} (ha : Bd a K) (hb : Bd b K) : Bd (mulD a b) (4 * K) := by
  obtain ⟨a1, a2, a3⟩ := ha
  obtain ⟨b1, b2, b3⟩ := hb
  have hb : blen (a.m * b.m) ≤ 2 * K := by
    refine blen_le.2 ?_
    rw [show 2 * K = K + K by omega, Nat.pow_add]
    exact Nat.mul_lt_mul_of_lt_of_lt (blen_le.1 a1) (blen_le.1 b1)
  exact Bd_mk (by omega) (by omega) (by omega)
theorem mayD_nzb {d : Dy} (h : Nz d) (b : Bd d 131072) : mayD d.n (dl d.m) d.e = true := by
  obtain ⟨b1, b2, b3⟩ := b
  have hm : mayL (dl d.m) = true := mayL_small b1
  simp only [mayD, hm, Bool.true_and]
  by_cases h0 : d.m = 0
  · rw [h.1 h0, dl_zero]; rfl
  · have h1 : ¬ (dl d.m).length = 0 := fun hc => h0 (dl_len0.1 hc)
    rw [if_neg h1, dg0]
    have h2 := h.2 h0
    simp only [Bool.and_eq_true, decide_eq_true_eq]
    exact ⟨h2, by omega, by omega⟩
end Go.Cv

/-
  The document's products, quotients, roots of words.
-/
namespace Go.Cv
variable {G : Nat → Option (List AV)} {T : Tbl} {g : Nat}

end Go.Cv

/-
  The program's words, taken apart for a sum, a product, a quotient.
-/
namespace Go.Cv
variable {G : Nat → Option (List AV)} {T : Tbl} {g : Nat}

def apB (bs : List Blk) (f : List Nat) (b n : Nat) (o : Option Blk) (w : Option (List AV)) : Option (AV × Heap) :=
  match w with
  | some nw => match o with
    | some k => if k.dead = false ∧ f.contains b = false ∧ n * 5 ≤ k.cs.length ∧ (n + 1) * 49 ≤ boundBytes then some (.own bs.length 0 (n + 1) 5, ⟨bs.set b ⟨k.cs, true⟩ ++ [⟨k.cs.take (n * 5) ++ nw, false⟩], f⟩) else none
    | none => none
  | none => none
theorem ap_x (bs : List Blk) (f : List Nat) (b n c : Nat) : appV ⟨bs, f⟩ 5 48 (.own b 0 n 5) (.own c 0 1 5) = apB bs f b n (bs[b]?) (subB (bs[c]?) 0 5) := by
  have h1 := rdBlk_x bs f c 0 5
  simp only [appV, sliceCells, if_true, Nat.one_mul, h1]
  cases subB (bs[c]?) 0 5 with
  | none => rfl
  | some nw =>
    simp only [Option.map_some, apB]
    cases bs[b]? with
    | none => rfl
    | some k => simp
theorem ap_0 (bs : List Blk) (b : Nat) (cs nw : List AV) : apB bs [] b 0 (some ⟨cs, false⟩) (some nw) = some (.own bs.length 0 1 5, ⟨bs.set b ⟨cs, true⟩ ++ [⟨nw, false⟩], []⟩) := by
  simp [apB, boundBytes]
theorem ap_1 (bs : List Blk) (b : Nat) (x1 x2 x3 x4 x5 : AV) (nw : List AV) : apB bs [] b 1 (some ⟨[x1, x2, x3, x4, x5], false⟩) (some nw) = some (.own bs.length 0 2 5, ⟨bs.set b ⟨[x1, x2, x3, x4, x5], true⟩ ++ [⟨x1 :: x2 :: x3 :: x4 :: x5 :: nw, false⟩], []⟩) := by
  simp [apB, boundBytes]
theorem ap_2 (bs : List Blk) (b : Nat) (x1 x2 x3 x4 x5 y1 y2 y3 y4 y5 : AV) (nw : List AV) : apB bs [] b 2 (some ⟨[x1, x2, x3, x4, x5, y1, y2, y3, y4, y5], false⟩) (some nw) = some (.own bs.length 0 3 5, ⟨bs.set b ⟨[x1, x2, x3, x4, x5, y1, y2, y3, y4, y5], true⟩ ++ [⟨x1 :: x2 :: x3 :: x4 :: x5 :: y1 :: y2 :: y3 :: y4 :: y5 :: nw, false⟩], []⟩) := by
  simp [apB, boundBytes]
theorem st_bs5 (F : CallF) (d : Option Nat) (os : List IOper) (e : Env) (h : Heap) (n : Nat) (zero : List AV) (ps : List (Nat × Nat × IOpd)) : evOps G F (⟨d, .bslice n 5 zero ps, none⟩ :: os) e h =
    kBs G F (fillA (repA n zero) (ps.map fun (o, n, x) => (o, n, opd e x))) (.own h.b.length 0 n 5) d os e h := st_bslice G F d os e h n 5 zero ps
theorem so_loop (e : Env) (h : Heap) : evL G T c_soft_open_l1 e h = kS G T (evL G T c_soft_open_b1 (keepE [0, 10, 31, 32, 33] e) h) c_soft_open_l1 := s_loopc G T rfl e h
theorem iw20 (x y : AV) (k : IntKind) : iaddrV 1 (.imm 2 [x, y]) (.int k 0) = some (.iptr [x, y] 0) := rfl
theorem iw21 (x y : AV) (k : IntKind) : iaddrV 1 (.imm 2 [x, y]) (.int k 1) = some (.iptr [x, y] 1) := rfl
theorem iw30 (x y z : AV) (k : IntKind) : iaddrV 1 (.imm 3 [x, y, z]) (.int k 0) = some (.iptr [x, y, z] 0) := rfl
theorem iw31 (x y z : AV) (k : IntKind) : iaddrV 1 (.imm 3 [x, y, z]) (.int k 1) = some (.iptr [x, y, z] 1) := rfl
theorem iw32 (x y z : AV) (k : IntKind) : iaddrV 1 (.imm 3 [x, y, z]) (.int k 2) = some (.iptr [x, y, z] 2) := rfl
theorem rp_0 (h : Mem) (x : AV) (l : List AV) : rdAt G h 1 (.iptr (x :: l) 0) = some [x] := by simp [rdAt]
theorem rp_1 (h : Mem) (x y : AV) (l : List AV) : rdAt G h 1 (.iptr (x :: y :: l) 1) = some [y] := by simp [rdAt]
theorem rp_2 (h : Mem) (x y z : AV) (l : List AV) : rdAt G h 1 (.iptr (x :: y :: z :: l) 2) = some [z] := by simp [rdAt]
theorem repA_3 (z : List AV) : repA 3 z = z ++ (z ++ z) := by simp [repA]
theorem wr_1 : IntKind.i64.wrap (0 + 1) = 1 := rfl
theorem wr_2 : IntKind.i64.wrap (1 + 1) = 2 := rfl
theorem wr_3 : IntKind.i64.wrap (2 + 1) = 3 := rfl
theorem wr1 : IntKind.i64.wrap 1 = 1 := rfl
theorem wr2 : IntKind.i64.wrap 2 = 2 := rfl
theorem wr3 : IntKind.i64.wrap 3 = 3 := rfl

/-- A part: class, sign, value. -/
def ptC (F : Fm) (w : Nat) (z : Bool) : List AV := [.int .u8 (F.cls w), .bool (F.ng w), .bool (F.vl w).n, D z (dl (F.vl w).m), .int .i64 (F.vl w).e]

set_option maxHeartbeats 8000000 in
theorem soft_open2 (hA : HasA g T) (hG : Glob G g) (hC : HasC g T) (hD : HasD g T) (hE : HasE g T) (hU : HasG g T) (F : Fm) {md : Int} (hm : 1 ≤ md ∧ md ≤ 5) {a : Nat} {b : Nat} (ha : a < 2 * F.sg) (hb : b < 2 * F.sg) :
    ∃ z1 z2, run G T 176 [.int .u8 F.u, .int .u8 md, .imm 2 [.int .u64 (a : Int), .int .u64 (b : Int)]] = some (.tup [.imm 2 (ptC F a z1 ++ ptC F b z2), .int .i64 0]) := by
  have o1 := round_Over (G := G) (T := T) hD hE F hm (neg := false)
  have s1 := word_Split (G := G) (T := T) hD hU F ha
  have c1 := word_Class (G := G) (T := T) hD hU F ha
  obtain ⟨z1, k1, v1⟩ := word_Value (G := G) (T := T) hA hG hC hD hU F ha
  have s2 := word_Split (G := G) (T := T) hD hU F hb
  have c2 := word_Class (G := G) (T := T) hD hU F hb
  obtain ⟨z2, k2, v2⟩ := word_Value (G := G) (T := T) hA hG hC hD hU F hb
  refine ⟨z1, z2, ?_⟩
  rw [run_k G T hU.soft_open]
  unfold ptC
  generalize F.cls a = ca' at *
  generalize F.ng a = na' at *
  generalize F.ex a = xa' at *
  generalize F.fc a = ya' at *
  generalize F.vl a = va' at *
  generalize F.cls b = cb' at *
  generalize F.ng b = nb' at *
  generalize F.ex b = xb' at *
  generalize F.fc b = yb' at *
  generalize F.vl b = vb' at *
  simp only [fldA, DyA, A3, List.cons_append, List.nil_append] at *
  repeat' (first | (simp (maxSteps := 1000000) only [evB, if_true, if_false, ne_eq, Nat.reduceEqDiff, Nat.reduceAdd, reduceCtorEq, Int.reduceLE, Int.reduceLT, Int.reduceEq, Int.reduceNeg, Int.reduceToNat, Int.reducePow, Int.reduceMod, Int.reduceDiv, Int.reduceSub, Int.reduceAdd, Int.reduceMul, Nat.reduceMul, Nat.reduceSub, Nat.reducePow, exB, resC_ptr, res_cell, nilb, nilf, faddr_p, c_soft_open, st_bs5, o1, s1, c1, v1, s2, c2, v2, so_loop, c_soft_open_b1, iw20, iw21, rp_0, rp_1, ap_0, ap_1, wr_1, wr1, wr_2, wr2, repA_2, ap_x, List.set_cons_zero, List.set_cons_succ, List.cons_append, List.nil_append ]) | (simp (maxSteps := 1000000) (disch := first | with_reducible assumption | omega) only [wrap_i64, iaddr_D, rd_iptr, toNat_sub_one, toNat_add_one, sl_hi, sl_lo, iaddr_own, kM_new, sub_cells, setO_cells, sub_pre, ct_fz1, dec_t, dec_f, bv_t, bv_f, tmod_nn, tdiv_nn, bin_shl, bin_shr,  kM_int]) | (simp only [kI_d, kG_dt, kG_df]; split) | (simp only [kI_v, kG_vt, kG_vf]; split))
set_option maxHeartbeats 8000000 in
theorem soft_open3 (hA : HasA g T) (hG : Glob G g) (hC : HasC g T) (hD : HasD g T) (hE : HasE g T) (hU : HasG g T) (F : Fm) {md : Int} (hm : 1 ≤ md ∧ md ≤ 5) {a : Nat} {b : Nat} {c : Nat} (ha : a < 2 * F.sg) (hb : b < 2 * F.sg) (hc : c < 2 * F.sg) :
    ∃ z1 z2 z3, run G T 176 [.int .u8 F.u, .int .u8 md, .imm 3 [.int .u64 (a : Int), .int .u64 (b : Int), .int .u64 (c : Int)]] = some (.tup [.imm 3 (ptC F a z1 ++ ptC F b z2 ++ ptC F c z3), .int .i64 0]) := by
  have o1 := round_Over (G := G) (T := T) hD hE F hm (neg := false)
  have s1 := word_Split (G := G) (T := T) hD hU F ha
  have c1 := word_Class (G := G) (T := T) hD hU F ha
  obtain ⟨z1, k1, v1⟩ := word_Value (G := G) (T := T) hA hG hC hD hU F ha
  have s2 := word_Split (G := G) (T := T) hD hU F hb
  have c2 := word_Class (G := G) (T := T) hD hU F hb
  obtain ⟨z2, k2, v2⟩ := word_Value (G := G) (T := T) hA hG hC hD hU F hb
  have s3 := word_Split (G := G) (T := T) hD hU F hc
  have c3 := word_Class (G := G) (T := T) hD hU F hc
  obtain ⟨z3, k3, v3⟩ := word_Value (G := G) (T := T) hA hG hC hD hU F hc
  refine ⟨z1, z2, z3, ?_⟩
  rw [run_k G T hU.soft_open]
  unfold ptC
  generalize F.cls a = ca' at *
  generalize F.ng a = na' at *
  generalize F.ex a = xa' at *
  generalize F.fc a = ya' at *
  generalize F.vl a = va' at *
  generalize F.cls b = cb' at *
  generalize F.ng b = nb' at *
  generalize F.ex b = xb' at *
  generalize F.fc b = yb' at *
  generalize F.vl b = vb' at *
  generalize F.cls c = cc' at *
  generalize F.ng c = nc' at *
  generalize F.ex c = xc' at *
  generalize F.fc c = yc' at *
  generalize F.vl c = vc' at *
  simp only [fldA, DyA, A3, List.cons_append, List.nil_append] at *
  repeat' (first | (simp (maxSteps := 1000000) only [evB, if_true, if_false, ne_eq, Nat.reduceEqDiff, Nat.reduceAdd, reduceCtorEq, Int.reduceLE, Int.reduceLT, Int.reduceEq, Int.reduceNeg, Int.reduceToNat, Int.reducePow, Int.reduceMod, Int.reduceDiv, Int.reduceSub, Int.reduceAdd, Int.reduceMul, Nat.reduceMul, Nat.reduceSub, Nat.reducePow, exB, resC_ptr, res_cell, nilb, nilf, faddr_p, c_soft_open, st_bs5, o1, s1, c1, v1, s2, c2, v2, s3, c3, v3, so_loop, c_soft_open_b1, iw30, iw31, iw32, rp_0, rp_1, rp_2, ap_0, ap_1, ap_2, wr_1, wr1, wr_2, wr2, wr_3, wr3, repA_3, ap_x, List.set_cons_zero, List.set_cons_succ, List.cons_append, List.nil_append ]) | (simp (maxSteps := 1000000) (disch := first | with_reducible assumption | omega) only [wrap_i64, iaddr_D, rd_iptr, toNat_sub_one, toNat_add_one, sl_hi, sl_lo, iaddr_own, kM_new, sub_cells, setO_cells, sub_pre, ct_fz1, dec_t, dec_f, bv_t, bv_f, tmod_nn, tdiv_nn, bin_shl, bin_shr,  kM_int]) | (simp only [kI_d, kG_dt, kG_df]; split) | (simp only [kI_v, kG_vt, kG_vf]; split))
set_option maxHeartbeats 8000000 in
theorem soft_open2_bad1 (hA : HasA g T) (hG : Glob G g) (hC : HasC g T) (hD : HasD g T) (hE : HasE g T) (hU : HasG g T) (F : Fm) {md : Int} (hm : 1 ≤ md ∧ md ≤ 5) {a : Nat} {b : Nat}  (hw : a < 18446744073709551616) (hbad : ¬ a < 2 * F.sg) :
    run G T 176 [.int .u8 F.u, .int .u8 md, .imm 2 [.int .u64 (a : Int), .int .u64 (b : Int)]] = some (.tup [.nil, .int .i64 6]) := by
  have o1 := round_Over (G := G) (T := T) hD hE F hm (neg := false)
  have sb := word_Split_bad (G := G) (T := T) hD hU F hw hbad
  rw [run_k G T hU.soft_open]
  simp only [fldA, DyA, A3] at *
  repeat' (first | (simp (maxSteps := 1000000) only [evB, if_true, if_false, ne_eq, Nat.reduceEqDiff, Nat.reduceAdd, reduceCtorEq, Int.reduceLE, Int.reduceLT, Int.reduceEq, Int.reduceNeg, Int.reduceToNat, Int.reducePow, Int.reduceMod, Int.reduceDiv, Int.reduceSub, Int.reduceAdd, Int.reduceMul, Nat.reduceMul, Nat.reduceSub, Nat.reducePow, exB, resC_ptr, res_cell, nilb, nilf, faddr_p, c_soft_open, st_bs5, o1, sb, so_loop, c_soft_open_b1, iw20, iw21, rp_0, rp_1, ap_0, ap_1, wr_1, wr1, wr_2, wr2, repA_2, ap_x, List.set_cons_zero, List.set_cons_succ, List.cons_append, List.nil_append ]) | (simp (maxSteps := 1000000) (disch := first | with_reducible assumption | omega) only [wrap_i64, iaddr_D, rd_iptr, toNat_sub_one, toNat_add_one, sl_hi, sl_lo, iaddr_own, kM_new, sub_cells, setO_cells, sub_pre, ct_fz1, dec_t, dec_f, bv_t, bv_f, tmod_nn, tdiv_nn, bin_shl, bin_shr,  kM_int]) | (simp only [kI_d, kG_dt, kG_df]; split) | (simp only [kI_v, kG_vt, kG_vf]; split))
set_option maxHeartbeats 8000000 in
theorem soft_open2_bad2 (hA : HasA g T) (hG : Glob G g) (hC : HasC g T) (hD : HasD g T) (hE : HasE g T) (hU : HasG g T) (F : Fm) {md : Int} (hm : 1 ≤ md ∧ md ≤ 5) {a : Nat} {b : Nat} (ha : a < 2 * F.sg) (hw : b < 18446744073709551616) (hbad : ¬ b < 2 * F.sg) :
    run G T 176 [.int .u8 F.u, .int .u8 md, .imm 2 [.int .u64 (a : Int), .int .u64 (b : Int)]] = some (.tup [.nil, .int .i64 6]) := by
  have o1 := round_Over (G := G) (T := T) hD hE F hm (neg := false)
  have s1 := word_Split (G := G) (T := T) hD hU F ha
  have c1 := word_Class (G := G) (T := T) hD hU F ha
  obtain ⟨z1, k1, v1⟩ := word_Value (G := G) (T := T) hA hG hC hD hU F ha
  have sb := word_Split_bad (G := G) (T := T) hD hU F hw hbad
  rw [run_k G T hU.soft_open]
  generalize F.cls a = ca' at *
  generalize F.ng a = na' at *
  generalize F.ex a = xa' at *
  generalize F.fc a = ya' at *
  generalize F.vl a = va' at *
  simp only [fldA, DyA, A3] at *
  repeat' (first | (simp (maxSteps := 1000000) only [evB, if_true, if_false, ne_eq, Nat.reduceEqDiff, Nat.reduceAdd, reduceCtorEq, Int.reduceLE, Int.reduceLT, Int.reduceEq, Int.reduceNeg, Int.reduceToNat, Int.reducePow, Int.reduceMod, Int.reduceDiv, Int.reduceSub, Int.reduceAdd, Int.reduceMul, Nat.reduceMul, Nat.reduceSub, Nat.reducePow, exB, resC_ptr, res_cell, nilb, nilf, faddr_p, c_soft_open, st_bs5, o1, sb, s1, c1, v1, so_loop, c_soft_open_b1, iw20, iw21, rp_0, rp_1, ap_0, ap_1, wr_1, wr1, wr_2, wr2, repA_2, ap_x, List.set_cons_zero, List.set_cons_succ, List.cons_append, List.nil_append ]) | (simp (maxSteps := 1000000) (disch := first | with_reducible assumption | omega) only [wrap_i64, iaddr_D, rd_iptr, toNat_sub_one, toNat_add_one, sl_hi, sl_lo, iaddr_own, kM_new, sub_cells, setO_cells, sub_pre, ct_fz1, dec_t, dec_f, bv_t, bv_f, tmod_nn, tdiv_nn, bin_shl, bin_shr,  kM_int]) | (simp only [kI_d, kG_dt, kG_df]; split) | (simp only [kI_v, kG_vt, kG_vf]; split))
theorem soft_open_no (hE : HasE g T) (hU : HasG g T) {f md : Int} (hf : ¬ (f = 1 ∨ f = 2)) {v : AV} :
    run G T 176 [.int .u8 f, .int .u8 md, v] = some (.tup [.nil, .int .i64 4]) := by
  rw [run_k G T hU.soft_open]
  have o1 := round_Over_no (G := G) (T := T) hE hf (m := md) (neg := false)
  repeat' (first | (simp (maxSteps := 1000000) only [evB, if_true, if_false, ne_eq, Nat.reduceEqDiff, Nat.reduceAdd, reduceCtorEq, Int.reduceLE, Int.reduceLT, Int.reduceEq, Int.reduceNeg, Int.reduceToNat, Int.reducePow, Int.reduceMod, Int.reduceDiv, Int.reduceSub, Int.reduceAdd, Int.reduceMul, Nat.reduceMul, Nat.reduceSub, Nat.reducePow, exB, resC_ptr, res_cell, nilb, nilf, faddr_p, c_soft_open, o1]) | (simp (maxSteps := 1000000) (disch := first | with_reducible assumption | omega) only [wrap_i64, iaddr_D, rd_iptr, toNat_sub_one, toNat_add_one, sl_hi, sl_lo, iaddr_own, kM_new, sub_cells, setO_cells, sub_pre, ct_fz1, dec_t, dec_f, bv_t, bv_f, tmod_nn, tdiv_nn, bin_shl, bin_shr]) | (simp only [kI_d, kG_dt, kG_df]; split) | (simp only [kI_v, kG_vt, kG_vf]; split))
theorem soft_open_mode (hE : HasE g T) (hU : HasG g T) (F : Fm) {md : Int} (hm : md < 1 ∨ 5 < md) {v : AV} :
    run G T 176 [.int .u8 F.u, .int .u8 md, v] = some (.tup [.nil, .int .i64 5]) := by
  rw [run_k G T hU.soft_open]
  have o1 := round_Over_mode (G := G) (T := T) hE F hm (neg := false)
  repeat' (first | (simp (maxSteps := 1000000) only [evB, if_true, if_false, ne_eq, Nat.reduceEqDiff, Nat.reduceAdd, reduceCtorEq, Int.reduceLE, Int.reduceLT, Int.reduceEq, Int.reduceNeg, Int.reduceToNat, Int.reducePow, Int.reduceMod, Int.reduceDiv, Int.reduceSub, Int.reduceAdd, Int.reduceMul, Nat.reduceMul, Nat.reduceSub, Nat.reducePow, exB, resC_ptr, res_cell, nilb, nilf, faddr_p, c_soft_open, o1]) | (simp (maxSteps := 1000000) (disch := first | with_reducible assumption | omega) only [wrap_i64, iaddr_D, rd_iptr, toNat_sub_one, toNat_add_one, sl_hi, sl_lo, iaddr_own, kM_new, sub_cells, setO_cells, sub_pre, ct_fz1, dec_t, dec_f, bv_t, bv_f, tmod_nn, tdiv_nn, bin_shl, bin_shr]) | (simp only [kI_d, kG_dt, kG_df]; split) | (simp only [kI_v, kG_vt, kG_vf]; split))
end Go.Cv

/-
  The program's sums of parts.
-/
namespace Go.Cv
variable {G : Nat → Option (List AV)} {T : Tbl} {g : Nat}

theorem hs_loop (e : Env) (h : Heap) : evL G T c_soft_has_l1 e h = kS G T (evL G T c_soft_has_b1 (keepE [0, 7, 8, 9] e) h) c_soft_has_l1 := s_loopc G T rfl e h
section
variable (a1 a2 a3 a4 a5 b1 b2 b3 b4 b5 c1 c2 c3 c4 c5 : AV) (k : IntKind)
theorem i5_20 : iaddrV 5 (.imm 2 [a1, a2, a3, a4, a5, b1, b2, b3, b4, b5]) (.int k 0) = some (.iptr [a1, a2, a3, a4, a5, b1, b2, b3, b4, b5] 0) := rfl
theorem i5_21 : iaddrV 5 (.imm 2 [a1, a2, a3, a4, a5, b1, b2, b3, b4, b5]) (.int k 1) = some (.iptr [a1, a2, a3, a4, a5, b1, b2, b3, b4, b5] 5) := rfl
theorem i5_30 : iaddrV 5 (.imm 3 [a1, a2, a3, a4, a5, b1, b2, b3, b4, b5, c1, c2, c3, c4, c5]) (.int k 0) = some (.iptr [a1, a2, a3, a4, a5, b1, b2, b3, b4, b5, c1, c2, c3, c4, c5] 0) := rfl
theorem i5_31 : iaddrV 5 (.imm 3 [a1, a2, a3, a4, a5, b1, b2, b3, b4, b5, c1, c2, c3, c4, c5]) (.int k 1) = some (.iptr [a1, a2, a3, a4, a5, b1, b2, b3, b4, b5, c1, c2, c3, c4, c5] 5) := rfl
theorem i5_32 : iaddrV 5 (.imm 3 [a1, a2, a3, a4, a5, b1, b2, b3, b4, b5, c1, c2, c3, c4, c5]) (.int k 2) = some (.iptr [a1, a2, a3, a4, a5, b1, b2, b3, b4, b5, c1, c2, c3, c4, c5] 10) := rfl
theorem r5_0 (h : Mem) (l : List AV) : rdAt G h 5 (.iptr (a1 :: a2 :: a3 :: a4 :: a5 :: l) 0) = some [a1, a2, a3, a4, a5] := by simp [rdAt]
theorem r5_5 (h : Mem) (l : List AV) : rdAt G h 5 (.iptr (a1 :: a2 :: a3 :: a4 :: a5 :: b1 :: b2 :: b3 :: b4 :: b5 :: l) 5) = some [b1, b2, b3, b4, b5] := by simp [rdAt]
theorem r5_10 (h : Mem) (l : List AV) : rdAt G h 5 (.iptr (a1 :: a2 :: a3 :: a4 :: a5 :: b1 :: b2 :: b3 :: b4 :: b5 :: c1 :: c2 :: c3 :: c4 :: c5 :: l) 10) = some [c1, c2, c3, c4, c5] := by simp [rdAt]
end

theorem soft_has2 (hU : HasG g T) {k c c' : Int} {n s n' s' z z' : Bool} {l l' : List Nat} {e e' : Int} :
    run G T 178 [.int .u8 k, .imm 2 [.int .u8 c, .bool n, .bool s, D z l, .int .i64 e, .int .u8 c', .bool n', .bool s', D z' l', .int .i64 e']] = some (.bool (decide (c = k ∨ c' = k))) := by
  rw [run_k G T hU.soft_has]
  by_cases h1 : c = k
  · rw [decide_eq_true (Or.inl h1)]
    repeat' (first | (simp (maxSteps := 1000000) only [evB, if_true, if_false, ne_eq, Nat.reduceEqDiff, Nat.reduceAdd, reduceCtorEq, Int.reduceLE, Int.reduceLT, Int.reduceEq, Int.reduceNeg, Int.reduceToNat, Int.reducePow, Int.reduceMod, Int.reduceDiv, Int.reduceSub, Int.reduceAdd, Int.reduceMul, Nat.reduceMul, Nat.reduceSub, Nat.reducePow, exB, resC_ptr, res_cell, nilb, nilf, faddr_p, c_soft_has, hs_loop, c_soft_has_b1, i5_20, i5_21, r5_0, r5_5, wr_1, wr1, wr_2, wr2, h1]) | (simp (maxSteps := 1000000) (disch := first | with_reducible assumption | omega) only [wrap_i64, iaddr_D, rd_iptr, toNat_sub_one, toNat_add_one, sl_hi, sl_lo, iaddr_own, kM_new, sub_cells, setO_cells, sub_pre, ct_fz1, dec_t, dec_f, bv_t, bv_f, tmod_nn, tdiv_nn, bin_shl, bin_shr]) | (simp only [kI_d, kG_dt, kG_df]; split) | (simp only [kI_v, kG_vt, kG_vf]; split))
  · by_cases h2 : c' = k
    · rw [decide_eq_true (Or.inr h2)]
      repeat' (first | (simp (maxSteps := 1000000) only [evB, if_true, if_false, ne_eq, Nat.reduceEqDiff, Nat.reduceAdd, reduceCtorEq, Int.reduceLE, Int.reduceLT, Int.reduceEq, Int.reduceNeg, Int.reduceToNat, Int.reducePow, Int.reduceMod, Int.reduceDiv, Int.reduceSub, Int.reduceAdd, Int.reduceMul, Nat.reduceMul, Nat.reduceSub, Nat.reducePow, exB, resC_ptr, res_cell, nilb, nilf, faddr_p, c_soft_has, hs_loop, c_soft_has_b1, i5_20, i5_21, r5_0, r5_5, wr_1, wr1, wr_2, wr2, h1, h2]) | (simp (maxSteps := 1000000) (disch := first | with_reducible assumption | omega) only [wrap_i64, iaddr_D, rd_iptr, toNat_sub_one, toNat_add_one, sl_hi, sl_lo, iaddr_own, kM_new, sub_cells, setO_cells, sub_pre, ct_fz1, dec_t, dec_f, bv_t, bv_f, tmod_nn, tdiv_nn, bin_shl, bin_shr]) | (simp only [kI_d, kG_dt, kG_df]; split) | (simp only [kI_v, kG_vt, kG_vf]; split))
    · rw [decide_eq_false (by omega)]
      repeat' (first | (simp (maxSteps := 1000000) only [evB, if_true, if_false, ne_eq, Nat.reduceEqDiff, Nat.reduceAdd, reduceCtorEq, Int.reduceLE, Int.reduceLT, Int.reduceEq, Int.reduceNeg, Int.reduceToNat, Int.reducePow, Int.reduceMod, Int.reduceDiv, Int.reduceSub, Int.reduceAdd, Int.reduceMul, Nat.reduceMul, Nat.reduceSub, Nat.reducePow, exB, resC_ptr, res_cell, nilb, nilf, faddr_p, c_soft_has, hs_loop, c_soft_has_b1, i5_20, i5_21, r5_0, r5_5, wr_1, wr1, wr_2, wr2, h1, h2]) | (simp (maxSteps := 1000000) (disch := first | with_reducible assumption | omega) only [wrap_i64, iaddr_D, rd_iptr, toNat_sub_one, toNat_add_one, sl_hi, sl_lo, iaddr_own, kM_new, sub_cells, setO_cells, sub_pre, ct_fz1, dec_t, dec_f, bv_t, bv_f, tmod_nn, tdiv_nn, bin_shl, bin_shr]) | (simp only [kI_d, kG_dt, kG_df]; split) | (simp only [kI_v, kG_vt, kG_vf]; split))
set_option maxHeartbeats 2000000 in
theorem soft_has3 (hU : HasG g T) {k c c' c'' : Int} {n s n' s' n'' s'' z z' z'' : Bool} {l l' l'' : List Nat} {e e' e'' : Int} :
    run G T 178 [.int .u8 k, .imm 3 [.int .u8 c, .bool n, .bool s, D z l, .int .i64 e, .int .u8 c', .bool n', .bool s', D z' l', .int .i64 e', .int .u8 c'', .bool n'', .bool s'', D z'' l'', .int .i64 e'']] = some (.bool (decide (c = k ∨ c' = k ∨ c'' = k))) := by
  rw [run_k G T hU.soft_has]
  by_cases h1 : c = k
  · rw [decide_eq_true (Or.inl h1)]
    repeat' (first | (simp (maxSteps := 1000000) only [evB, if_true, if_false, ne_eq, Nat.reduceEqDiff, Nat.reduceAdd, reduceCtorEq, Int.reduceLE, Int.reduceLT, Int.reduceEq, Int.reduceNeg, Int.reduceToNat, Int.reducePow, Int.reduceMod, Int.reduceDiv, Int.reduceSub, Int.reduceAdd, Int.reduceMul, Nat.reduceMul, Nat.reduceSub, Nat.reducePow, exB, resC_ptr, res_cell, nilb, nilf, faddr_p, c_soft_has, hs_loop, c_soft_has_b1, i5_30, i5_31, i5_32, r5_0, r5_5, r5_10, wr_1, wr1, wr_2, wr2, wr_3, wr3, h1]) | (simp (maxSteps := 1000000) (disch := first | with_reducible assumption | omega) only [wrap_i64, iaddr_D, rd_iptr, toNat_sub_one, toNat_add_one, sl_hi, sl_lo, iaddr_own, kM_new, sub_cells, setO_cells, sub_pre, ct_fz1, dec_t, dec_f, bv_t, bv_f, tmod_nn, tdiv_nn, bin_shl, bin_shr]) | (simp only [kI_d, kG_dt, kG_df]; split) | (simp only [kI_v, kG_vt, kG_vf]; split))
  · by_cases h2 : c' = k
    · rw [decide_eq_true (Or.inr (Or.inl h2))]
      repeat' (first | (simp (maxSteps := 1000000) only [evB, if_true, if_false, ne_eq, Nat.reduceEqDiff, Nat.reduceAdd, reduceCtorEq, Int.reduceLE, Int.reduceLT, Int.reduceEq, Int.reduceNeg, Int.reduceToNat, Int.reducePow, Int.reduceMod, Int.reduceDiv, Int.reduceSub, Int.reduceAdd, Int.reduceMul, Nat.reduceMul, Nat.reduceSub, Nat.reducePow, exB, resC_ptr, res_cell, nilb, nilf, faddr_p, c_soft_has, hs_loop, c_soft_has_b1, i5_30, i5_31, i5_32, r5_0, r5_5, r5_10, wr_1, wr1, wr_2, wr2, wr_3, wr3, h1, h2]) | (simp (maxSteps := 1000000) (disch := first | with_reducible assumption | omega) only [wrap_i64, iaddr_D, rd_iptr, toNat_sub_one, toNat_add_one, sl_hi, sl_lo, iaddr_own, kM_new, sub_cells, setO_cells, sub_pre, ct_fz1, dec_t, dec_f, bv_t, bv_f, tmod_nn, tdiv_nn, bin_shl, bin_shr]) | (simp only [kI_d, kG_dt, kG_df]; split) | (simp only [kI_v, kG_vt, kG_vf]; split))
    · by_cases h3 : c'' = k
      · rw [decide_eq_true (Or.inr (Or.inr h3))]
        repeat' (first | (simp (maxSteps := 1000000) only [evB, if_true, if_false, ne_eq, Nat.reduceEqDiff, Nat.reduceAdd, reduceCtorEq, Int.reduceLE, Int.reduceLT, Int.reduceEq, Int.reduceNeg, Int.reduceToNat, Int.reducePow, Int.reduceMod, Int.reduceDiv, Int.reduceSub, Int.reduceAdd, Int.reduceMul, Nat.reduceMul, Nat.reduceSub, Nat.reducePow, exB, resC_ptr, res_cell, nilb, nilf, faddr_p, c_soft_has, hs_loop, c_soft_has_b1, i5_30, i5_31, i5_32, r5_0, r5_5, r5_10, wr_1, wr1, wr_2, wr2, wr_3, wr3, h1, h2, h3]) | (simp (maxSteps := 1000000) (disch := first | with_reducible assumption | omega) only [wrap_i64, iaddr_D, rd_iptr, toNat_sub_one, toNat_add_one, sl_hi, sl_lo, iaddr_own, kM_new, sub_cells, setO_cells, sub_pre, ct_fz1, dec_t, dec_f, bv_t, bv_f, tmod_nn, tdiv_nn, bin_shl, bin_shr]) | (simp only [kI_d, kG_dt, kG_df]; split) | (simp only [kI_v, kG_vt, kG_vf]; split))
      · rw [decide_eq_false (by omega)]
        repeat' (first | (simp (maxSteps := 1000000) only [evB, if_true, if_false, ne_eq, Nat.reduceEqDiff, Nat.reduceAdd, reduceCtorEq, Int.reduceLE, Int.reduceLT, Int.reduceEq, Int.reduceNeg, Int.reduceToNat, Int.reducePow, Int.reduceMod, Int.reduceDiv, Int.reduceSub, Int.reduceAdd, Int.reduceMul, Nat.reduceMul, Nat.reduceSub, Nat.reducePow, exB, resC_ptr, res_cell, nilb, nilf, faddr_p, c_soft_has, hs_loop, c_soft_has_b1, i5_30, i5_31, i5_32, r5_0, r5_5, r5_10, wr_1, wr1, wr_2, wr2, wr_3, wr3, h1, h2, h3]) | (simp (maxSteps := 1000000) (disch := first | with_reducible assumption | omega) only [wrap_i64, iaddr_D, rd_iptr, toNat_sub_one, toNat_add_one, sl_hi, sl_lo, iaddr_own, kM_new, sub_cells, setO_cells, sub_pre, ct_fz1, dec_t, dec_f, bv_t, bv_f, tmod_nn, tdiv_nn, bin_shl, bin_shr]) | (simp only [kI_d, kG_dt, kG_df]; split) | (simp only [kI_v, kG_vt, kG_vf]; split))

def deskA (F : Fm) (md : Int) : AV := .agg [.int .u8 F.u, .int .u8 md]
def ptA (c : Int) (n z : Bool) (d : Dy) : AV := .agg [.int .u8 c, .bool n, .bool d.n, D z (dl d.m), .int .i64 d.e]

theorem desk_none (hD : HasD g T) (hU : HasG g T) (F : Fm) {md x : Int} : run G T 179 [deskA F md, .int .u8 x] = some (.tup [.int .u64 (F.nan : Int), .int .u8 x, .int .i64 0]) := by
  rw [run_k G T hU.soft_desk_none]
  have h1 := word_None (G := G) (T := T) hU hD F
  simp only [deskA] at *
  repeat' (first | (simp (maxSteps := 1000000) only [evB, if_true, if_false, ne_eq, Nat.reduceEqDiff, Nat.reduceAdd, reduceCtorEq, Int.reduceLE, Int.reduceLT, Int.reduceEq, Int.reduceNeg, Int.reduceToNat, Int.reducePow, Int.reduceMod, Int.reduceDiv, Int.reduceSub, Int.reduceAdd, Int.reduceMul, Nat.reduceMul, Nat.reduceSub, Nat.reducePow, exB, resC_ptr, res_cell, nilb, nilf, faddr_p, c_soft_desk_none, h1]) | (simp (maxSteps := 1000000) (disch := first | with_reducible assumption | omega) only [wrap_i64, iaddr_D, rd_iptr, toNat_sub_one, toNat_add_one, sl_hi, sl_lo, iaddr_own, kM_new, sub_cells, setO_cells, sub_pre, ct_fz1, dec_t, dec_f, bv_t, bv_f, tmod_nn, tdiv_nn, bin_shl, bin_shr]) | (simp only [kI_d, kG_dt, kG_df]; split) | (simp only [kI_v, kG_vt, kG_vf]; split))
theorem desk_inf (hD : HasD g T) (hU : HasG g T) (F : Fm) {md x : Int} {n : Bool} : run G T 180 [deskA F md, .bool n, .int .u8 x] = some (.tup [.int .u64 ((F.inf n : Nat) : Int), .int .u8 x, .int .i64 0]) := by
  rw [run_k G T hU.soft_desk_inf]
  have h1 := word_Inf (G := G) (T := T) hD F (n := n)
  simp only [deskA] at *
  cases n <;> repeat' (first | (simp (maxSteps := 1000000) only [evB, if_true, if_false, ne_eq, Nat.reduceEqDiff, Nat.reduceAdd, reduceCtorEq, Int.reduceLE, Int.reduceLT, Int.reduceEq, Int.reduceNeg, Int.reduceToNat, Int.reducePow, Int.reduceMod, Int.reduceDiv, Int.reduceSub, Int.reduceAdd, Int.reduceMul, Nat.reduceMul, Nat.reduceSub, Nat.reducePow, exB, resC_ptr, res_cell, nilb, nilf, faddr_p, c_soft_desk_inf, h1]) | (simp (maxSteps := 1000000) (disch := first | with_reducible assumption | omega) only [wrap_i64, iaddr_D, rd_iptr, toNat_sub_one, toNat_add_one, sl_hi, sl_lo, iaddr_own, kM_new, sub_cells, setO_cells, sub_pre, ct_fz1, dec_t, dec_f, bv_t, bv_f, tmod_nn, tdiv_nn, bin_shl, bin_shr]) | (simp only [kI_d, kG_dt, kG_df]; split) | (simp only [kI_v, kG_vt, kG_vf]; split))
theorem desk_zero (hD : HasD g T) (hU : HasG g T) (F : Fm) {md : Int} {n : Bool} : run G T 181 [deskA F md, .bool n] = some (.tup [.int .u64 ((F.sgn n : Nat) : Int), .int .u8 0, .int .i64 0]) := by
  rw [run_k G T hU.soft_desk_zero]
  have h1 := word_Zero (G := G) (T := T) hD F (n := n)
  simp only [deskA] at *
  cases n <;> repeat' (first | (simp (maxSteps := 1000000) only [evB, if_true, if_false, ne_eq, Nat.reduceEqDiff, Nat.reduceAdd, reduceCtorEq, Int.reduceLE, Int.reduceLT, Int.reduceEq, Int.reduceNeg, Int.reduceToNat, Int.reducePow, Int.reduceMod, Int.reduceDiv, Int.reduceSub, Int.reduceAdd, Int.reduceMul, Nat.reduceMul, Nat.reduceSub, Nat.reducePow, exB, resC_ptr, res_cell, nilb, nilf, faddr_p, c_soft_desk_zero, h1]) | (simp (maxSteps := 1000000) (disch := first | with_reducible assumption | omega) only [wrap_i64, iaddr_D, rd_iptr, toNat_sub_one, toNat_add_one, sl_hi, sl_lo, iaddr_own, kM_new, sub_cells, setO_cells, sub_pre, ct_fz1, dec_t, dec_f, bv_t, bv_f, tmod_nn, tdiv_nn, bin_shl, bin_shr]) | (simp only [kI_d, kG_dt, kG_df]; split) | (simp only [kI_v, kG_vt, kG_vf]; split))
theorem desk_sum (hA : HasA g T) (hG : Glob G g) (hC : HasC g T) (hD : HasD g T) (hE : HasE g T) (hU : HasG g T) (F : Fm) {md : Int} (hm : 1 ≤ md ∧ md ≤ 5) {z : Bool} {d : Dy} (hz : Nz d) (hb : Bd d 131072) :
    run G T 183 [deskA F md, DyA z d] = some (.tup [.int .u64 ((sumW F md d).1 : Int), .int .u8 ((sumW F md d).2 : Int), .int .i64 0]) := by
  rw [run_k G T hU.soft_desk_sum]
  have hmd := mayD_nzb hz hb
  have s1 := dyad_Sign (G := G) (T := T) hA hC (n := d.n) (z := z) (Dg_dl d.m) (e := d.e)
  rw [sign_may hmd] at s1
  unfold sumW
  by_cases h0 : d.m = 0
  · rw [if_pos h0] at s1 ⊢
    have h1 := desk_zero (G := G) (T := T) hD hU F (md := md) (n := decide (md = 5))
    simp only [deskA, DyA, A3] at *
    repeat' (first | (simp (maxSteps := 1000000) only [evB, if_true, if_false, ne_eq, Nat.reduceEqDiff, Nat.reduceAdd, reduceCtorEq, Int.reduceLE, Int.reduceLT, Int.reduceEq, Int.reduceNeg, Int.reduceToNat, Int.reducePow, Int.reduceMod, Int.reduceDiv, Int.reduceSub, Int.reduceAdd, Int.reduceMul, Nat.reduceMul, Nat.reduceSub, Nat.reducePow, exB, resC_ptr, res_cell, nilb, nilf, faddr_p, c_soft_desk_sum, s1, h1]) | (simp (maxSteps := 1000000) (disch := first | with_reducible assumption | omega) only [wrap_i64, iaddr_D, rd_iptr, toNat_sub_one, toNat_add_one, sl_hi, sl_lo, iaddr_own, kM_new, sub_cells, setO_cells, sub_pre, ct_fz1, dec_t, dec_f, bv_t, bv_f, tmod_nn, tdiv_nn, bin_shl, bin_shr]) | (simp only [kI_d, kG_dt, kG_df]; split) | (simp only [kI_v, kG_vt, kG_vf]; split))
    all_goals try rfl
  · rw [if_neg h0] at s1 ⊢
    have h1 := round_Round (G := G) (T := T) hA hC hG hD hE F hm (z := z) (d := d) hmd
    have c1 : ¬ (if d.n = true then (-1 : Int) else 1) = 0 := by split <;> decide
    generalize (if d.n = true then (-1 : Int) else 1) = sg at *
    generalize rndW F md d = S at *
    simp only [deskA, DyA, A3] at *
    repeat' (first | (simp (maxSteps := 1000000) only [evB, if_true, if_false, ne_eq, Nat.reduceEqDiff, Nat.reduceAdd, reduceCtorEq, Int.reduceLE, Int.reduceLT, Int.reduceEq, Int.reduceNeg, Int.reduceToNat, Int.reducePow, Int.reduceMod, Int.reduceDiv, Int.reduceSub, Int.reduceAdd, Int.reduceMul, Nat.reduceMul, Nat.reduceSub, Nat.reducePow, exB, resC_ptr, res_cell, nilb, nilf, faddr_p, c_soft_desk_sum, s1, c1, h1]) | (simp (maxSteps := 1000000) (disch := first | with_reducible assumption | omega) only [wrap_i64, iaddr_D, rd_iptr, toNat_sub_one, toNat_add_one, sl_hi, sl_lo, iaddr_own, kM_new, sub_cells, setO_cells, sub_pre, ct_fz1, dec_t, dec_f, bv_t, bv_f, tmod_nn, tdiv_nn, bin_shl, bin_shr]) | (simp only [kI_d, kG_dt, kG_df]; split) | (simp only [kI_v, kG_vt, kG_vf]; split))
    all_goals try rfl

set_option maxHeartbeats 8000000 in
theorem desk_add (hA : HasA g T) (hG : Glob G g) (hC : HasC g T) (hD : HasD g T) (hE : HasE g T) (hU : HasG g T) (F : Fm) {md : Int} (hm : 1 ≤ md ∧ md ≤ 5) {c c' : Int} {n n' z z' : Bool} {d d' : Dy}
    (hz : Nz d) (hz' : Nz d') (hb : Bd d 16384) (hb' : Bd d' 16384) :
    run G T 177 [deskA F md, ptA c n z d, ptA c' n' z' d'] = some (.tup [.int .u64 ((addP F md c n d c' n' d').1 : Int), .int .u8 ((addP F md c n d c' n' d').2 : Int), .int .i64 0]) := by
  rw [run_k G T hU.soft_desk_add]
  have h5 := soft_has2 (G := G) (T := T) hU (k := 5) (c := c) (c' := c') (n := n) (s := d.n) (n' := n') (s' := d'.n) (z := z) (z' := z') (l := dl d.m) (l' := dl d'.m) (e := d.e) (e' := d'.e)
  have nn := fun x => desk_none (G := G) (T := T) hD hU F (md := md) (x := x)
  have inf := fun m => desk_inf (G := G) (T := T) hD hU F (md := md) (x := 0) (n := m)
  have ze := fun m => desk_zero (G := G) (T := T) hD hU F (md := md) (n := m)
  unfold addP
  by_cases a5 : c = 5 ∨ c' = 5
  · rw [decide_eq_true a5] at h5
    rw [if_pos a5]
    simp only [deskA, ptA] at *
    repeat' (first | (simp (maxSteps := 1000000) only [evB, if_true, if_false, ne_eq, Nat.reduceEqDiff, Nat.reduceAdd, reduceCtorEq, Int.reduceLE, Int.reduceLT, Int.reduceEq, Int.reduceNeg, Int.reduceToNat, Int.reducePow, Int.reduceMod, Int.reduceDiv, Int.reduceSub, Int.reduceAdd, Int.reduceMul, Nat.reduceMul, Nat.reduceSub, Nat.reducePow, exB, resC_ptr, res_cell, nilb, nilf, faddr_p, c_soft_desk_add, st_bs5, h5, nn]) | (simp (maxSteps := 1000000) (disch := first | with_reducible assumption | omega) only [wrap_i64, iaddr_D, rd_iptr, toNat_sub_one, toNat_add_one, sl_hi, sl_lo, iaddr_own, kM_new, sub_cells, setO_cells, sub_pre, ct_fz1, dec_t, dec_f, bv_t, bv_f, tmod_nn, tdiv_nn, bin_shl, bin_shr]) | (simp only [kI_d, kG_dt, kG_df]; split) | (simp only [kI_v, kG_vt, kG_vf]; split))
    all_goals try rfl
  · rw [decide_eq_false a5] at h5
    rw [if_neg a5]
    by_cases a4 : c = 4
    · by_cases b4 : c' = 4
      · by_cases hn : n = n'
        · rw [if_neg (show ¬ (c = 4 ∧ c' = 4 ∧ n ≠ n') from fun h => h.2.2 hn), if_pos a4]
          have i1 := inf n'
          subst a4 b4 hn
          simp only [deskA, ptA] at *
          cases n <;> (
            repeat' (first | (simp (maxSteps := 1000000) only [evB, if_true, if_false, ne_eq, Nat.reduceEqDiff, Nat.reduceAdd, reduceCtorEq, Int.reduceLE, Int.reduceLT, Int.reduceEq, Int.reduceNeg, Int.reduceToNat, Int.reducePow, Int.reduceMod, Int.reduceDiv, Int.reduceSub, Int.reduceAdd, Int.reduceMul, Nat.reduceMul, Nat.reduceSub, Nat.reducePow, exB, resC_ptr, res_cell, nilb, nilf, faddr_p, c_soft_desk_add, st_bs5, h5, i1]) | (simp (maxSteps := 1000000) (disch := first | with_reducible assumption | omega) only [wrap_i64, iaddr_D, rd_iptr, toNat_sub_one, toNat_add_one, sl_hi, sl_lo, iaddr_own, kM_new, sub_cells, setO_cells, sub_pre, ct_fz1, dec_t, dec_f, bv_t, bv_f, tmod_nn, tdiv_nn, bin_shl, bin_shr]) | (simp only [kI_d, kG_dt, kG_df]; split) | (simp only [kI_v, kG_vt, kG_vf]; split))
            all_goals try rfl)
        · rw [if_pos (show c = 4 ∧ c' = 4 ∧ n ≠ n' from ⟨a4, b4, hn⟩)]
          subst a4 b4
          simp only [deskA, ptA] at *
          cases n <;> cases n' <;> first | exact absurd rfl hn | (
            repeat' (first | (simp (maxSteps := 1000000) only [evB, if_true, if_false, ne_eq, Nat.reduceEqDiff, Nat.reduceAdd, reduceCtorEq, Int.reduceLE, Int.reduceLT, Int.reduceEq, Int.reduceNeg, Int.reduceToNat, Int.reducePow, Int.reduceMod, Int.reduceDiv, Int.reduceSub, Int.reduceAdd, Int.reduceMul, Nat.reduceMul, Nat.reduceSub, Nat.reducePow, exB, resC_ptr, res_cell, nilb, nilf, faddr_p, c_soft_desk_add, st_bs5, h5, nn]) | (simp (maxSteps := 1000000) (disch := first | with_reducible assumption | omega) only [wrap_i64, iaddr_D, rd_iptr, toNat_sub_one, toNat_add_one, sl_hi, sl_lo, iaddr_own, kM_new, sub_cells, setO_cells, sub_pre, ct_fz1, dec_t, dec_f, bv_t, bv_f, tmod_nn, tdiv_nn, bin_shl, bin_shr]) | (simp only [kI_d, kG_dt, kG_df]; split) | (simp only [kI_v, kG_vt, kG_vf]; split))
            all_goals try rfl)
      · rw [if_neg (show ¬ (c = 4 ∧ c' = 4 ∧ n ≠ n') by omega), if_pos a4]
        have i1 := inf n
        subst a4
        simp only [deskA, ptA] at *
        cases n <;> (
          repeat' (first | (simp (maxSteps := 1000000) only [evB, if_true, if_false, ne_eq, Nat.reduceEqDiff, Nat.reduceAdd, reduceCtorEq, Int.reduceLE, Int.reduceLT, Int.reduceEq, Int.reduceNeg, Int.reduceToNat, Int.reducePow, Int.reduceMod, Int.reduceDiv, Int.reduceSub, Int.reduceAdd, Int.reduceMul, Nat.reduceMul, Nat.reduceSub, Nat.reducePow, exB, resC_ptr, res_cell, nilb, nilf, faddr_p, c_soft_desk_add, st_bs5, h5, b4, i1]) | (simp (maxSteps := 1000000) (disch := first | with_reducible assumption | omega) only [wrap_i64, iaddr_D, rd_iptr, toNat_sub_one, toNat_add_one, sl_hi, sl_lo, iaddr_own, kM_new, sub_cells, setO_cells, sub_pre, ct_fz1, dec_t, dec_f, bv_t, bv_f, tmod_nn, tdiv_nn, bin_shl, bin_shr]) | (simp only [kI_d, kG_dt, kG_df]; split) | (simp only [kI_v, kG_vt, kG_vf]; split))
          all_goals try rfl)
    · rw [if_neg (show ¬ (c = 4 ∧ c' = 4 ∧ n ≠ n') by omega), if_neg a4]
      by_cases b4 : c' = 4
      · rw [if_pos b4]
        have i1 := inf n'
        subst b4
        simp only [deskA, ptA] at *
        cases n' <;> (
          repeat' (first | (simp (maxSteps := 1000000) only [evB, if_true, if_false, ne_eq, Nat.reduceEqDiff, Nat.reduceAdd, reduceCtorEq, Int.reduceLE, Int.reduceLT, Int.reduceEq, Int.reduceNeg, Int.reduceToNat, Int.reducePow, Int.reduceMod, Int.reduceDiv, Int.reduceSub, Int.reduceAdd, Int.reduceMul, Nat.reduceMul, Nat.reduceSub, Nat.reducePow, exB, resC_ptr, res_cell, nilb, nilf, faddr_p, c_soft_desk_add, st_bs5, h5, a4, i1]) | (simp (maxSteps := 1000000) (disch := first | with_reducible assumption | omega) only [wrap_i64, iaddr_D, rd_iptr, toNat_sub_one, toNat_add_one, sl_hi, sl_lo, iaddr_own, kM_new, sub_cells, setO_cells, sub_pre, ct_fz1, dec_t, dec_f, bv_t, bv_f, tmod_nn, tdiv_nn, bin_shl, bin_shr]) | (simp only [kI_d, kG_dt, kG_df]; split) | (simp only [kI_v, kG_vt, kG_vf]; split))
          all_goals try rfl)
      · rw [if_neg b4]
        by_cases h1 : c = 1 ∧ c' = 1 ∧ n = n'
        · rw [if_pos h1]
          have i1 := ze n
          obtain ⟨k1, k2, k3⟩ := h1
          subst k1 k2 k3
          simp only [deskA, ptA] at *
          cases n <;> (
            repeat' (first | (simp (maxSteps := 1000000) only [evB, if_true, if_false, ne_eq, Nat.reduceEqDiff, Nat.reduceAdd, reduceCtorEq, Int.reduceLE, Int.reduceLT, Int.reduceEq, Int.reduceNeg, Int.reduceToNat, Int.reducePow, Int.reduceMod, Int.reduceDiv, Int.reduceSub, Int.reduceAdd, Int.reduceMul, Nat.reduceMul, Nat.reduceSub, Nat.reducePow, exB, resC_ptr, res_cell, nilb, nilf, faddr_p, c_soft_desk_add, st_bs5, h5, i1]) | (simp (maxSteps := 1000000) (disch := first | with_reducible assumption | omega) only [wrap_i64, iaddr_D, rd_iptr, toNat_sub_one, toNat_add_one, sl_hi, sl_lo, iaddr_own, kM_new, sub_cells, setO_cells, sub_pre, ct_fz1, dec_t, dec_f, bv_t, bv_f, tmod_nn, tdiv_nn, bin_shl, bin_shr]) | (simp only [kI_d, kG_dt, kG_df]; split) | (simp only [kI_v, kG_vt, kG_vf]; split))
            all_goals try rfl)
        · rw [if_neg h1]
          obtain ⟨z3, s1⟩ := dyad_Add (G := G) (T := T) hA hG hC hU (z := z) (y := z') hb hb' (mayD_nzb hz (hb.mono (by decide))) (mayD_nzb hz' (hb'.mono (by decide)))
          have s2 := desk_sum (G := G) (T := T) hA hG hC hD hE hU F hm (z := z3) (Nz_add hz hz') ((Bd_add hb hb').mono (by decide))
          generalize sumW F md (addD d d') = S at *
          generalize addD d d' = s at *
          have hk : ¬ c = 1 ∨ (c = 1 ∧ ¬ c' = 1) ∨ (c = 1 ∧ c' = 1 ∧ n ≠ n') := by
            by_cases q1 : c = 1
            · by_cases q2 : c' = 1
              · right; right; exact ⟨q1, q2, fun h => h1 ⟨q1, q2, h⟩⟩
              · right; left; exact ⟨q1, q2⟩
            · left; exact q1
          clear h1 hb hb' hz hz' inf ze nn
          simp only [deskA, ptA, DyA, A3] at *
          rcases hk with k1 | ⟨k1, k2⟩ | ⟨k1, k2, k3⟩
          · repeat' (first | (simp (maxSteps := 1000000) only [evB, if_true, if_false, ne_eq, Nat.reduceEqDiff, Nat.reduceAdd, reduceCtorEq, Int.reduceLE, Int.reduceLT, Int.reduceEq, Int.reduceNeg, Int.reduceToNat, Int.reducePow, Int.reduceMod, Int.reduceDiv, Int.reduceSub, Int.reduceAdd, Int.reduceMul, Nat.reduceMul, Nat.reduceSub, Nat.reducePow, exB, resC_ptr, res_cell, nilb, nilf, faddr_p, c_soft_desk_add, st_bs5, h5, a4, b4, k1, s1, s2]) | (simp (maxSteps := 1000000) (disch := first | with_reducible assumption | omega) only [wrap_i64, iaddr_D, rd_iptr, toNat_sub_one, toNat_add_one, sl_hi, sl_lo, iaddr_own, kM_new, sub_cells, setO_cells, sub_pre, ct_fz1, dec_t, dec_f, bv_t, bv_f, tmod_nn, tdiv_nn, bin_shl, bin_shr]) | (simp only [kI_d, kG_dt, kG_df]; split) | (simp only [kI_v, kG_vt, kG_vf]; split))
            all_goals try rfl
          · subst k1
            repeat' (first | (simp (maxSteps := 1000000) only [evB, if_true, if_false, ne_eq, Nat.reduceEqDiff, Nat.reduceAdd, reduceCtorEq, Int.reduceLE, Int.reduceLT, Int.reduceEq, Int.reduceNeg, Int.reduceToNat, Int.reducePow, Int.reduceMod, Int.reduceDiv, Int.reduceSub, Int.reduceAdd, Int.reduceMul, Nat.reduceMul, Nat.reduceSub, Nat.reducePow, exB, resC_ptr, res_cell, nilb, nilf, faddr_p, c_soft_desk_add, st_bs5, h5, a4, b4, k2, s1, s2]) | (simp (maxSteps := 1000000) (disch := first | with_reducible assumption | omega) only [wrap_i64, iaddr_D, rd_iptr, toNat_sub_one, toNat_add_one, sl_hi, sl_lo, iaddr_own, kM_new, sub_cells, setO_cells, sub_pre, ct_fz1, dec_t, dec_f, bv_t, bv_f, tmod_nn, tdiv_nn, bin_shl, bin_shr]) | (simp only [kI_d, kG_dt, kG_df]; split) | (simp only [kI_v, kG_vt, kG_vf]; split))
            all_goals try rfl
          · subst k1 k2
            cases n <;> cases n' <;> first | exact absurd rfl k3 | (
              repeat' (first | (simp (maxSteps := 1000000) only [evB, if_true, if_false, ne_eq, Nat.reduceEqDiff, Nat.reduceAdd, reduceCtorEq, Int.reduceLE, Int.reduceLT, Int.reduceEq, Int.reduceNeg, Int.reduceToNat, Int.reducePow, Int.reduceMod, Int.reduceDiv, Int.reduceSub, Int.reduceAdd, Int.reduceMul, Nat.reduceMul, Nat.reduceSub, Nat.reducePow, exB, resC_ptr, res_cell, nilb, nilf, faddr_p, c_soft_desk_add, st_bs5, h5, s1, s2]) | (simp (maxSteps := 1000000) (disch := first | with_reducible assumption | omega) only [wrap_i64, iaddr_D, rd_iptr, toNat_sub_one, toNat_add_one, sl_hi, sl_lo, iaddr_own, kM_new, sub_cells, setO_cells, sub_pre, ct_fz1, dec_t, dec_f, bv_t, bv_f, tmod_nn, tdiv_nn, bin_shl, bin_shr]) | (simp only [kI_d, kG_dt, kG_df]; split) | (simp only [kI_v, kG_vt, kG_vf]; split))
              all_goals try rfl)
end Go.Cv

/-
  The program's sums, differences, products, quotients, roots of words.
-/
namespace Go.Cv
variable {G : Nat → Option (List AV)} {T : Tbl} {g : Nat}

theorem apart_ip (cs : List AV) (o b o' : Nat) : apart (.iptr cs o) (.ptr b o') = true := rfl
theorem soft_Add (hA : HasA g T) (hG : Glob G g) (hC : HasC g T) (hD : HasD g T) (hE : HasE g T) (hU : HasG g T) (F : Fm) {md : Int} (hm : 1 ≤ md ∧ md ≤ 5) {a b : Nat} (ha : a < 2 * F.sg) (hb : b < 2 * F.sg) :
    run G T 164 [.int .u8 F.u, .int .u8 md, .int .u64 (a : Int), .int .u64 (b : Int)] = some (.tup [.int .u64 ((addW F md a b).1 : Int), .int .u8 ((addW F md a b).2 : Int), .int .i64 0]) := by
  rw [run_k G T hU.soft_Add]
  obtain ⟨z1, z2, o1⟩ := soft_open2 (G := G) (T := T) hA hG hC hD hE hU F hm ha hb
  have s1 := desk_add (G := G) (T := T) hA hG hC hD hE hU F hm (c := F.cls a) (n := F.ng a) (z := z1) (d := F.vl a) (c' := F.cls b) (n' := F.ng b) (z' := z2) (d' := F.vl b) (Nz_vl F a) (Nz_vl F b) ((Bd_vl F a).mono (by decide)) ((Bd_vl F b).mono (by decide))
  unfold addW
  generalize addP F md (F.cls a) (F.ng a) (F.vl a) (F.cls b) (F.ng b) (F.vl b) = S at *
  unfold ptC at o1
  generalize F.cls a = ca at *
  generalize F.ng a = na at *
  generalize F.vl a = va at *
  generalize F.cls b = cb at *
  generalize F.ng b = nb at *
  generalize F.vl b = vb at *
  simp only [deskA, ptA, List.cons_append, List.nil_append] at *
  repeat' (first | (simp (maxSteps := 1000000) only [evB, if_true, if_false, ne_eq, Nat.reduceEqDiff, Nat.reduceAdd, reduceCtorEq, Int.reduceLE, Int.reduceLT, Int.reduceEq, Int.reduceNeg, Int.reduceToNat, Int.reducePow, Int.reduceMod, Int.reduceDiv, Int.reduceSub, Int.reduceAdd, Int.reduceMul, Nat.reduceMul, Nat.reduceSub, Nat.reducePow, exB, resC_ptr, res_cell, nilb, nilf, faddr_p, c_soft_Add, o1, i5_20, i5_21, r5_0, r5_5, s1]) | (simp (maxSteps := 1000000) (disch := first | with_reducible assumption | omega) only [wrap_i64, iaddr_D, rd_iptr, toNat_sub_one, toNat_add_one, sl_hi, sl_lo, iaddr_own, kM_new, sub_cells, setO_cells, sub_pre, ct_fz1, dec_t, dec_f, bv_t, bv_f, tmod_nn, tdiv_nn, bin_shl, bin_shr]) | (simp only [kI_d, kG_dt, kG_df]; split) | (simp only [kI_v, kG_vt, kG_vf]; split))
  all_goals try rfl

theorem soft_Sub (hA : HasA g T) (hG : Glob G g) (hC : HasC g T) (hD : HasD g T) (hE : HasE g T) (hU : HasG g T) (F : Fm) {md : Int} (hm : 1 ≤ md ∧ md ≤ 5) {a b : Nat} (ha : a < 2 * F.sg) (hb : b < 2 * F.sg) :
    run G T 166 [.int .u8 F.u, .int .u8 md, .int .u64 (a : Int), .int .u64 (b : Int)] = some (.tup [.int .u64 ((subW F md a b).1 : Int), .int .u8 ((subW F md a b).2 : Int), .int .i64 0]) := by
  rw [run_k G T hU.soft_Sub]
  obtain ⟨z1, z2, o1⟩ := soft_open2 (G := G) (T := T) hA hG hC hD hE hU F hm ha hb
  obtain ⟨z3, n1⟩ := dyad_Neg (G := G) (T := T) hA hC hU (z := z2) (d := F.vl b) (mayD_nzb (Nz_vl F b) ((Bd_vl F b).mono (by decide)))
  have s1 := desk_add (G := G) (T := T) hA hG hC hD hE hU F hm (c := F.cls a) (n := F.ng a) (z := z1) (d := F.vl a) (c' := F.cls b) (n' := !F.ng b) (z' := z3) (d' := negD (F.vl b)) (Nz_vl F a) (Nz_neg (Nz_vl F b)) ((Bd_vl F a).mono (by decide)) (((Bd_vl F b).neg).mono (by decide))
  unfold subW
  generalize addP F md (F.cls a) (F.ng a) (F.vl a) (F.cls b) (!F.ng b) (negD (F.vl b)) = S at *
  unfold ptC at o1
  generalize negD (F.vl b) = vb' at *
  generalize F.cls a = ca at *
  generalize F.ng a = na at *
  generalize F.vl a = va at *
  generalize F.cls b = cb at *
  generalize F.ng b = nb at *
  generalize F.vl b = vb at *
  simp only [deskA, ptA, DyA, A3, List.cons_append, List.nil_append] at *
  cases nb <;> (
    simp only [Bool.not_true, Bool.not_false] at s1
    repeat' (first | (simp (maxSteps := 1000000) only [evB, if_true, if_false, ne_eq, Nat.reduceEqDiff, Nat.reduceAdd, reduceCtorEq, Int.reduceLE, Int.reduceLT, Int.reduceEq, Int.reduceNeg, Int.reduceToNat, Int.reducePow, Int.reduceMod, Int.reduceDiv, Int.reduceSub, Int.reduceAdd, Int.reduceMul, Nat.reduceMul, Nat.reduceSub, Nat.reducePow, exB, resC_ptr, res_cell, nilb, nilf, faddr_p, c_soft_Sub, o1, i5_20, i5_21, r5_0, r5_5, n1, s1]) | (simp (maxSteps := 1000000) (disch := first | with_reducible assumption | omega) only [wrap_i64, iaddr_D, rd_iptr, toNat_sub_one, toNat_add_one, sl_hi, sl_lo, iaddr_own, kM_new, sub_cells, setO_cells, sub_pre, ct_fz1, dec_t, dec_f, bv_t, bv_f, tmod_nn, tdiv_nn, bin_shl, bin_shr]) | (simp only [kI_d, kG_dt, kG_df]; split) | (simp only [kI_v, kG_vt, kG_vf]; split))
    all_goals try rfl)

set_option maxHeartbeats 8000000 in
theorem soft_Mul (hA : HasA g T) (hG : Glob G g) (hC : HasC g T) (hD : HasD g T) (hE : HasE g T) (hU : HasG g T) (F : Fm) {md : Int} (hm : 1 ≤ md ∧ md ≤ 5) {a b : Nat} (ha : a < 2 * F.sg) (hb : b < 2 * F.sg) :
    run G T 165 [.int .u8 F.u, .int .u8 md, .int .u64 (a : Int), .int .u64 (b : Int)] = some (.tup [.int .u64 ((mulW2 F md a b).1 : Int), .int .u8 ((mulW2 F md a b).2 : Int), .int .i64 0]) := by
  rw [run_k G T hU.soft_Mul]
  obtain ⟨z1, z2, o1⟩ := soft_open2 (G := G) (T := T) hA hG hC hD hE hU F hm ha hb
  have hk := fun k => soft_has2 (G := G) (T := T) hU (k := k) (c := F.cls a) (c' := F.cls b) (n := F.ng a) (s := (F.vl a).n) (n' := F.ng b) (s' := (F.vl b).n) (z := z1) (z' := z2) (l := dl (F.vl a).m) (l' := dl (F.vl b).m) (e := (F.vl a).e) (e' := (F.vl b).e)
  have h5 := hk 5
  have h4 := hk 4
  have h1 := hk 1
  have nn := fun x => desk_none (G := G) (T := T) hD hU F (md := md) (x := x)
  have inf := fun x => desk_inf (G := G) (T := T) hD hU F (md := md) (x := x) (n := F.ng a != F.ng b)
  have ze := desk_zero (G := G) (T := T) hD hU F (md := md) (n := F.ng a != F.ng b)
  have b1 := Bd_vl F a
  have b2 := Bd_vl F b
  obtain ⟨z3, m1⟩ := dyad_Mul (G := G) (T := T) hA hG hC hU (z := z1) (y := z2) (b1.mono (by decide)) (b2.mono (by decide)) (mayD_nzb (Nz_vl F a) (b1.mono (by decide))) (mayD_nzb (Nz_vl F b) (b2.mono (by decide)))
  have s1 := desk_sum (G := G) (T := T) hA hG hC hD hE hU F hm (z := z3) (Nz_mul (F.vl a) (F.vl b)) ((Bd_mul b1 b2).mono (by decide))
  unfold mulW2 mulP
  unfold ptC at o1
  generalize sumW F md (mulD (F.vl a) (F.vl b)) = S at *
  generalize mulD (F.vl a) (F.vl b) = s at *
  clear b1 b2 hk
  generalize F.cls a = ca at *
  generalize F.ng a = na at *
  generalize F.vl a = va at *
  generalize F.cls b = cb at *
  generalize F.ng b = nb at *
  generalize F.vl b = vb at *
  simp only [deskA, DyA, A3, List.cons_append, List.nil_append] at *
  have hne : (na != nb) = !decide (na = nb) := by cases na <;> cases nb <;> rfl
  rw [hne] at inf ze ⊢
  by_cases q5 : ca = 5 ∨ cb = 5
  · rw [decide_eq_true q5] at h5
    rw [if_pos q5]
    repeat' (first | (simp (maxSteps := 1000000) only [evB, if_true, if_false, ne_eq, Nat.reduceEqDiff, Nat.reduceAdd, reduceCtorEq, Int.reduceLE, Int.reduceLT, Int.reduceEq, Int.reduceNeg, Int.reduceToNat, Int.reducePow, Int.reduceMod, Int.reduceDiv, Int.reduceSub, Int.reduceAdd, Int.reduceMul, Nat.reduceMul, Nat.reduceSub, Nat.reducePow, exB, resC_ptr, res_cell, nilb, nilf, faddr_p, c_soft_Mul, apart_ip, o1, i5_20, i5_21, r5_0, r5_5, h5, nn]) | (simp (maxSteps := 1000000) (disch := first | with_reducible assumption | omega) only [wrap_i64, iaddr_D, rd_iptr, toNat_sub_one, toNat_add_one, sl_hi, sl_lo, iaddr_own, kM_new, sub_cells, setO_cells, sub_pre, ct_fz1, dec_t, dec_f, bv_t, bv_f, tmod_nn, tdiv_nn, bin_shl, bin_shr]) | (simp only [kI_d, kG_dt, kG_df]; split) | (simp only [kI_v, kG_vt, kG_vf]; split))
    all_goals try rfl
  · rw [decide_eq_false q5] at h5
    rw [if_neg q5]
    by_cases q4 : ca = 4 ∨ cb = 4
    · rw [decide_eq_true q4] at h4
      by_cases q1 : ca = 1 ∨ cb = 1
      · rw [decide_eq_true q1] at h1
        rw [if_pos (show (ca = 4 ∨ cb = 4) ∧ (ca = 1 ∨ cb = 1) from ⟨q4, q1⟩)]
        repeat' (first | (simp (maxSteps := 1000000) only [evB, if_true, if_false, ne_eq, Nat.reduceEqDiff, Nat.reduceAdd, reduceCtorEq, Int.reduceLE, Int.reduceLT, Int.reduceEq, Int.reduceNeg, Int.reduceToNat, Int.reducePow, Int.reduceMod, Int.reduceDiv, Int.reduceSub, Int.reduceAdd, Int.reduceMul, Nat.reduceMul, Nat.reduceSub, Nat.reducePow, exB, resC_ptr, res_cell, nilb, nilf, faddr_p, c_soft_Mul, apart_ip, o1, i5_20, i5_21, r5_0, r5_5, h5, h4, h1, nn]) | (simp (maxSteps := 1000000) (disch := first | with_reducible assumption | omega) only [wrap_i64, iaddr_D, rd_iptr, toNat_sub_one, toNat_add_one, sl_hi, sl_lo, iaddr_own, kM_new, sub_cells, setO_cells, sub_pre, ct_fz1, dec_t, dec_f, bv_t, bv_f, tmod_nn, tdiv_nn, bin_shl, bin_shr]) | (simp only [kI_d, kG_dt, kG_df]; split) | (simp only [kI_v, kG_vt, kG_vf]; split))
        all_goals try rfl
      · rw [decide_eq_false q1] at h1
        rw [if_neg (show ¬ ((ca = 4 ∨ cb = 4) ∧ (ca = 1 ∨ cb = 1)) from fun h => q1 h.2), if_pos q4]
        repeat' (first | (simp (maxSteps := 1000000) only [evB, if_true, if_false, ne_eq, Nat.reduceEqDiff, Nat.reduceAdd, reduceCtorEq, Int.reduceLE, Int.reduceLT, Int.reduceEq, Int.reduceNeg, Int.reduceToNat, Int.reducePow, Int.reduceMod, Int.reduceDiv, Int.reduceSub, Int.reduceAdd, Int.reduceMul, Nat.reduceMul, Nat.reduceSub, Nat.reducePow, exB, resC_ptr, res_cell, nilb, nilf, faddr_p, c_soft_Mul, apart_ip, o1, i5_20, i5_21, r5_0, r5_5, h5, h4, h1, inf]) | (simp (maxSteps := 1000000) (disch := first | with_reducible assumption | omega) only [wrap_i64, iaddr_D, rd_iptr, toNat_sub_one, toNat_add_one, sl_hi, sl_lo, iaddr_own, kM_new, sub_cells, setO_cells, sub_pre, ct_fz1, dec_t, dec_f, bv_t, bv_f, tmod_nn, tdiv_nn, bin_shl, bin_shr]) | (simp only [kI_d, kG_dt, kG_df]; split) | (simp only [kI_v, kG_vt, kG_vf]; split))
        all_goals try rfl
    · rw [decide_eq_false q4] at h4
      rw [if_neg (show ¬ ((ca = 4 ∨ cb = 4) ∧ (ca = 1 ∨ cb = 1)) from fun h => q4 h.1), if_neg q4]
      by_cases q1 : ca = 1 ∨ cb = 1
      · rw [decide_eq_true q1] at h1
        rw [if_pos q1]
        repeat' (first | (simp (maxSteps := 1000000) only [evB, if_true, if_false, ne_eq, Nat.reduceEqDiff, Nat.reduceAdd, reduceCtorEq, Int.reduceLE, Int.reduceLT, Int.reduceEq, Int.reduceNeg, Int.reduceToNat, Int.reducePow, Int.reduceMod, Int.reduceDiv, Int.reduceSub, Int.reduceAdd, Int.reduceMul, Nat.reduceMul, Nat.reduceSub, Nat.reducePow, exB, resC_ptr, res_cell, nilb, nilf, faddr_p, c_soft_Mul, apart_ip, o1, i5_20, i5_21, r5_0, r5_5, h5, h4, h1, ze]) | (simp (maxSteps := 1000000) (disch := first | with_reducible assumption | omega) only [wrap_i64, iaddr_D, rd_iptr, toNat_sub_one, toNat_add_one, sl_hi, sl_lo, iaddr_own, kM_new, sub_cells, setO_cells, sub_pre, ct_fz1, dec_t, dec_f, bv_t, bv_f, tmod_nn, tdiv_nn, bin_shl, bin_shr]) | (simp only [kI_d, kG_dt, kG_df]; split) | (simp only [kI_v, kG_vt, kG_vf]; split))
        all_goals try rfl
      · rw [decide_eq_false q1] at h1
        rw [if_neg q1]
        repeat' (first | (simp (maxSteps := 1000000) only [evB, if_true, if_false, ne_eq, Nat.reduceEqDiff, Nat.reduceAdd, reduceCtorEq, Int.reduceLE, Int.reduceLT, Int.reduceEq, Int.reduceNeg, Int.reduceToNat, Int.reducePow, Int.reduceMod, Int.reduceDiv, Int.reduceSub, Int.reduceAdd, Int.reduceMul, Nat.reduceMul, Nat.reduceSub, Nat.reducePow, exB, resC_ptr, res_cell, nilb, nilf, faddr_p, c_soft_Mul, apart_ip, o1, i5_20, i5_21, r5_0, r5_5, h5, h4, h1, m1, s1]) | (simp (maxSteps := 1000000) (disch := first | with_reducible assumption | omega) only [wrap_i64, iaddr_D, rd_iptr, toNat_sub_one, toNat_add_one, sl_hi, sl_lo, iaddr_own, kM_new, sub_cells, setO_cells, sub_pre, ct_fz1, dec_t, dec_f, bv_t, bv_f, tmod_nn, tdiv_nn, bin_shl, bin_shr]) | (simp only [kI_d, kG_dt, kG_df]; split) | (simp only [kI_v, kG_vt, kG_vf]; split))
        all_goals try rfl
end Go.Cv

/-
  The program's quotients, roots, fused products of words.
-/
namespace Go.Cv
variable {G : Nat → Option (List AV)} {T : Tbl} {g : Nat}

end Go.Cv

/-
  The program's fused product and sum of words.
-/
namespace Go.Cv
variable {G : Nat → Option (List AV)} {T : Tbl} {g : Nat}

set_option maxHeartbeats 16000000 in
theorem soft_MulAdd (hA : HasA g T) (hG : Glob G g) (hC : HasC g T) (hD : HasD g T) (hE : HasE g T) (hU : HasG g T) (F : Fm) {md : Int} (hm : 1 ≤ md ∧ md ≤ 5) {a b c : Nat} (ha : a < 2 * F.sg) (hb : b < 2 * F.sg) (hc : c < 2 * F.sg) :
    run G T 175 [.int .u8 F.u, .int .u8 md, .int .u64 (a : Int), .int .u64 (b : Int), .int .u64 (c : Int)] = some (.tup [.int .u64 ((fmaW F md a b c).1 : Int), .int .u8 ((fmaW F md a b c).2 : Int), .int .i64 0]) := by
  rw [run_k G T hU.soft_MulAdd]
  obtain ⟨z1, z2, z3, o1⟩ := soft_open3 (G := G) (T := T) hA hG hC hD hE hU F hm ha hb hc
  have h5 := soft_has3 (G := G) (T := T) hU (k := 5) (c := F.cls a) (c' := F.cls b) (c'' := F.cls c) (n := F.ng a) (s := (F.vl a).n) (n' := F.ng b) (s' := (F.vl b).n) (n'' := F.ng c) (s'' := (F.vl c).n) (z := z1) (z' := z2) (z'' := z3) (l := dl (F.vl a).m) (l' := dl (F.vl b).m) (l'' := dl (F.vl c).m) (e := (F.vl a).e) (e' := (F.vl b).e) (e'' := (F.vl c).e)
  have hk := fun k => soft_has2 (G := G) (T := T) hU (k := k) (c := F.cls a) (c' := F.cls b) (n := F.ng a) (s := (F.vl a).n) (n' := F.ng b) (s' := (F.vl b).n) (z := z1) (z' := z2) (l := dl (F.vl a).m) (l' := dl (F.vl b).m) (e := (F.vl a).e) (e' := (F.vl b).e)
  have h4 := hk 4
  have h1 := hk 1
  have nn := fun x => desk_none (G := G) (T := T) hD hU F (md := md) (x := x)
  have b1 := Bd_vl F a
  have b2 := Bd_vl F b
  obtain ⟨z4, m1⟩ := dyad_Mul (G := G) (T := T) hA hG hC hU (z := z1) (y := z2) (b1.mono (by decide)) (b2.mono (by decide)) (mayD_nzb (Nz_vl F a) (b1.mono (by decide))) (mayD_nzb (Nz_vl F b) (b2.mono (by decide)))
  have ad := fun (k : Int) (z : Bool) (d : Dy) (hz : Nz d) (hb : Bd d 16384) => desk_add (G := G) (T := T) hA hG hC hD hE hU F hm (c := k) (n := F.ng a != F.ng b) (z := z) (d := d) (c' := F.cls c) (n' := F.ng c) (z' := z3) (d' := F.vl c) hz (Nz_vl F c) hb ((Bd_vl F c).mono (by decide))
  have ad4 := ad 4 true ⟨false, 0, 0⟩ ⟨fun _ => rfl, fun h => absurd rfl h⟩ ⟨by simp only [blen_zero]; omega, by simp, by simp⟩
  have ad1 := ad 1 true ⟨false, 0, 0⟩ ⟨fun _ => rfl, fun h => absurd rfl h⟩ ⟨by simp only [blen_zero]; omega, by simp, by simp⟩
  have ad3 := ad 3 z4 (mulD (F.vl a) (F.vl b)) (Nz_mul _ _) ((Bd_mul b1 b2).mono (by decide))
  clear ad b1 b2 hk
  unfold fmaW prC
  unfold ptC at o1
  generalize mulD (F.vl a) (F.vl b) = s at *
  have hne : (F.ng a != F.ng b) = !decide (F.ng a = F.ng b) := by cases F.ng a <;> cases F.ng b <;> rfl
  rw [hne] at ad4 ad1 ad3 ⊢
  generalize F.cls a = ca at *
  generalize F.ng a = na at *
  generalize F.vl a = va at *
  generalize F.cls b = cb at *
  generalize F.ng b = nb at *
  generalize F.vl b = vb at *
  generalize F.cls c = cc at *
  generalize F.ng c = nc at *
  generalize F.vl c = vc at *
  by_cases q5 : ca = 5 ∨ cb = 5 ∨ cc = 5
  · rw [decide_eq_true q5] at h5
    rw [if_pos q5]
    simp only [deskA, ptA, DyA, A3, dl_zero, List.cons_append, List.nil_append] at *
    repeat' (first | (simp (maxSteps := 1000000) only [evB, if_true, if_false, ne_eq, Nat.reduceEqDiff, Nat.reduceAdd, reduceCtorEq, Int.reduceLE, Int.reduceLT, Int.reduceEq, Int.reduceNeg, Int.reduceToNat, Int.reducePow, Int.reduceMod, Int.reduceDiv, Int.reduceSub, Int.reduceAdd, Int.reduceMul, Nat.reduceMul, Nat.reduceSub, Nat.reducePow, exB, resC_ptr, res_cell, nilb, nilf, faddr_p, c_soft_MulAdd, apart_ip, repA_3, st_bs5, o1, i5_30, i5_31, i5_32, r5_0, r5_5, r5_10, h5, nn]) | (simp (maxSteps := 1000000) (disch := first | with_reducible assumption | omega) only [wrap_i64, iaddr_D, rd_iptr, toNat_sub_one, toNat_add_one, sl_hi, sl_lo, iaddr_own, kM_new, sub_cells, setO_cells, sub_pre, ct_fz1, dec_t, dec_f, bv_t, bv_f, tmod_nn, tdiv_nn, bin_shl, bin_shr]) | (simp only [kI_d, kG_dt, kG_df]; split) | (simp only [kI_v, kG_vt, kG_vf]; split))
    all_goals try rfl
  · rw [decide_eq_false q5] at h5
    rw [if_neg q5]
    by_cases q4 : ca = 4 ∨ cb = 4
    · rw [decide_eq_true q4] at h4
      by_cases q1 : ca = 1 ∨ cb = 1
      · rw [decide_eq_true q1] at h1
        rw [if_pos (show (ca = 4 ∨ cb = 4) ∧ (ca = 1 ∨ cb = 1) from ⟨q4, q1⟩)]
        simp only [deskA, ptA, DyA, A3, dl_zero, List.cons_append, List.nil_append] at *
        repeat' (first | (simp (maxSteps := 1000000) only [evB, if_true, if_false, ne_eq, Nat.reduceEqDiff, Nat.reduceAdd, reduceCtorEq, Int.reduceLE, Int.reduceLT, Int.reduceEq, Int.reduceNeg, Int.reduceToNat, Int.reducePow, Int.reduceMod, Int.reduceDiv, Int.reduceSub, Int.reduceAdd, Int.reduceMul, Nat.reduceMul, Nat.reduceSub, Nat.reducePow, exB, resC_ptr, res_cell, nilb, nilf, faddr_p, c_soft_MulAdd, apart_ip, repA_3, st_bs5, o1, i5_30, i5_31, i5_32, r5_0, r5_5, r5_10, h5, h4, h1, nn]) | (simp (maxSteps := 1000000) (disch := first | with_reducible assumption | omega) only [wrap_i64, iaddr_D, rd_iptr, toNat_sub_one, toNat_add_one, sl_hi, sl_lo, iaddr_own, kM_new, sub_cells, setO_cells, sub_pre, ct_fz1, dec_t, dec_f, bv_t, bv_f, tmod_nn, tdiv_nn, bin_shl, bin_shr]) | (simp only [kI_d, kG_dt, kG_df]; split) | (simp only [kI_v, kG_vt, kG_vf]; split))
        all_goals try rfl
      · rw [decide_eq_false q1] at h1
        rw [if_neg (show ¬ ((ca = 4 ∨ cb = 4) ∧ (ca = 1 ∨ cb = 1)) from fun h => q1 h.2), if_pos q4, if_neg (by decide)]
        generalize addP F md 4 (!decide (na = nb)) ⟨false, 0, 0⟩ cc nc vc = S at *
        clear ad1 ad3
        simp only [deskA, ptA, DyA, A3, dl_zero, D_nil.symm, List.cons_append, List.nil_append] at *
        repeat' (first | (simp (maxSteps := 1000000) only [evB, if_true, if_false, ne_eq, Nat.reduceEqDiff, Nat.reduceAdd, reduceCtorEq, Int.reduceLE, Int.reduceLT, Int.reduceEq, Int.reduceNeg, Int.reduceToNat, Int.reducePow, Int.reduceMod, Int.reduceDiv, Int.reduceSub, Int.reduceAdd, Int.reduceMul, Nat.reduceMul, Nat.reduceSub, Nat.reducePow, exB, resC_ptr, res_cell, nilb, nilf, faddr_p, c_soft_MulAdd, apart_ip, repA_3, st_bs5, o1, i5_30, i5_31, i5_32, r5_0, r5_5, r5_10, h5, h4, h1, ad4]) | (simp (maxSteps := 1000000) (disch := first | with_reducible assumption | omega) only [wrap_i64, iaddr_D, rd_iptr, toNat_sub_one, toNat_add_one, sl_hi, sl_lo, iaddr_own, kM_new, sub_cells, setO_cells, sub_pre, ct_fz1, dec_t, dec_f, bv_t, bv_f, tmod_nn, tdiv_nn, bin_shl, bin_shr]) | (simp only [kI_d, kG_dt, kG_df]; split) | (simp only [kI_v, kG_vt, kG_vf]; split))
        all_goals try rfl
    · rw [decide_eq_false q4] at h4
      rw [if_neg (show ¬ ((ca = 4 ∨ cb = 4) ∧ (ca = 1 ∨ cb = 1)) from fun h => q4 h.1), if_neg q4]
      by_cases q1 : ca = 1 ∨ cb = 1
      · rw [decide_eq_true q1] at h1
        rw [if_pos q1, if_neg (by decide)]
        generalize addP F md 1 (!decide (na = nb)) ⟨false, 0, 0⟩ cc nc vc = S at *
        clear ad4 ad3
        simp only [deskA, ptA, DyA, A3, dl_zero, D_nil.symm, List.cons_append, List.nil_append] at *
        repeat' (first | (simp (maxSteps := 1000000) only [evB, if_true, if_false, ne_eq, Nat.reduceEqDiff, Nat.reduceAdd, reduceCtorEq, Int.reduceLE, Int.reduceLT, Int.reduceEq, Int.reduceNeg, Int.reduceToNat, Int.reducePow, Int.reduceMod, Int.reduceDiv, Int.reduceSub, Int.reduceAdd, Int.reduceMul, Nat.reduceMul, Nat.reduceSub, Nat.reducePow, exB, resC_ptr, res_cell, nilb, nilf, faddr_p, c_soft_MulAdd, apart_ip, repA_3, st_bs5, o1, i5_30, i5_31, i5_32, r5_0, r5_5, r5_10, h5, h4, h1, ad1]) | (simp (maxSteps := 1000000) (disch := first | with_reducible assumption | omega) only [wrap_i64, iaddr_D, rd_iptr, toNat_sub_one, toNat_add_one, sl_hi, sl_lo, iaddr_own, kM_new, sub_cells, setO_cells, sub_pre, ct_fz1, dec_t, dec_f, bv_t, bv_f, tmod_nn, tdiv_nn, bin_shl, bin_shr]) | (simp only [kI_d, kG_dt, kG_df]; split) | (simp only [kI_v, kG_vt, kG_vf]; split))
        all_goals try rfl
      · rw [decide_eq_false q1] at h1
        rw [if_neg q1, if_pos rfl]
        generalize addP F md 3 (!decide (na = nb)) s cc nc vc = S at *
        clear ad4 ad1
        simp only [deskA, ptA, DyA, A3, dl_zero, List.cons_append, List.nil_append] at *
        repeat' (first | (simp (maxSteps := 1000000) only [evB, if_true, if_false, ne_eq, Nat.reduceEqDiff, Nat.reduceAdd, reduceCtorEq, Int.reduceLE, Int.reduceLT, Int.reduceEq, Int.reduceNeg, Int.reduceToNat, Int.reducePow, Int.reduceMod, Int.reduceDiv, Int.reduceSub, Int.reduceAdd, Int.reduceMul, Nat.reduceMul, Nat.reduceSub, Nat.reducePow, exB, resC_ptr, res_cell, nilb, nilf, faddr_p, c_soft_MulAdd, apart_ip, repA_3, st_bs5, o1, i5_30, i5_31, i5_32, r5_0, r5_5, r5_10, h5, h4, h1, m1, ad3]) | (simp (maxSteps := 1000000) (disch := first | with_reducible assumption | omega) only [wrap_i64, iaddr_D, rd_iptr, toNat_sub_one, toNat_add_one, sl_hi, sl_lo, iaddr_own, kM_new, sub_cells, setO_cells, sub_pre, ct_fz1, dec_t, dec_f, bv_t, bv_f, tmod_nn, tdiv_nn, bin_shl, bin_shr]) | (simp only [kI_d, kG_dt, kG_df]; split) | (simp only [kI_v, kG_vt, kG_vf]; split))
        all_goals try rfl
end Go.Cv

/-
  The document's fused product and sum; what is refused ahead of all else.
-/
namespace Go.Cv
variable {G : Nat → Option (List AV)} {T : Tbl} {g : Nat}

theorem op5_loop (e : Env) (h : Heap) : evL G T c_ref05_Opens_l1 e h = kS G T (evL G T c_ref05_Opens_b1 (keepE [0, 2, 7] e) h) c_ref05_Opens_l1 := s_loopc G T rfl e h
theorem ref05_Opens_no (hD : HasD g T) (hU : HasG g T) {f md : Int} (h : ¬ (f = 1 ∨ f = 2)) {v : AV} : run G T 162 [.int .u8 f, .int .u8 md, v] = some (.int .i64 4) := by
  rw [run_k G T hU.ref05_Opens]
  have h1 := ref03_Is (G := G) (T := T) hD (f := f)
  rw [decide_eq_false h] at h1
  repeat' (first | (simp (maxSteps := 1000000) only [evB, if_true, if_false, ne_eq, Nat.reduceEqDiff, Nat.reduceAdd, reduceCtorEq, Int.reduceLE, Int.reduceLT, Int.reduceEq, Int.reduceNeg, Int.reduceToNat, Int.reducePow, Int.reduceMod, Int.reduceDiv, Int.reduceSub, Int.reduceAdd, Int.reduceMul, Nat.reduceMul, Nat.reduceSub, Nat.reducePow, exB, resC_ptr, res_cell, nilb, nilf, faddr_p, c_ref05_Opens, h1]) | (simp (maxSteps := 1000000) (disch := first | with_reducible assumption | omega) only [wrap_i64, iaddr_D, rd_iptr, toNat_sub_one, toNat_add_one, sl_hi, sl_lo, iaddr_own, kM_new, sub_cells, setO_cells, sub_pre, ct_fz1, dec_t, dec_f, bv_t, bv_f, tmod_nn, tdiv_nn, bin_shl, bin_shr]) | (simp only [kI_d, kG_dt, kG_df]; split) | (simp only [kI_v, kG_vt, kG_vf]; split))
theorem ref05_Opens_mode (hD : HasD g T) (hE : HasE g T) (hU : HasG g T) (F : Fm) {md : Int} (h : ¬ (1 ≤ md ∧ md ≤ 5)) {v : AV} : run G T 162 [.int .u8 F.u, .int .u8 md, v] = some (.int .i64 5) := by
  rw [run_k G T hU.ref05_Opens]
  have h1 := ref03_IsF (G := G) (T := T) hD F
  have h2 := ref04_Is (G := G) (T := T) hE (m := md)
  rw [decide_eq_false h] at h2
  repeat' (first | (simp (maxSteps := 1000000) only [evB, if_true, if_false, ne_eq, Nat.reduceEqDiff, Nat.reduceAdd, reduceCtorEq, Int.reduceLE, Int.reduceLT, Int.reduceEq, Int.reduceNeg, Int.reduceToNat, Int.reducePow, Int.reduceMod, Int.reduceDiv, Int.reduceSub, Int.reduceAdd, Int.reduceMul, Nat.reduceMul, Nat.reduceSub, Nat.reducePow, exB, resC_ptr, res_cell, nilb, nilf, faddr_p, c_ref05_Opens, h1, h2]) | (simp (maxSteps := 1000000) (disch := first | with_reducible assumption | omega) only [wrap_i64, iaddr_D, rd_iptr, toNat_sub_one, toNat_add_one, sl_hi, sl_lo, iaddr_own, kM_new, sub_cells, setO_cells, sub_pre, ct_fz1, dec_t, dec_f, bv_t, bv_f, tmod_nn, tdiv_nn, bin_shl, bin_shr]) | (simp only [kI_d, kG_dt, kG_df]; split) | (simp only [kI_v, kG_vt, kG_vf]; split))
theorem ref05_Opens2 (hD : HasD g T) (hE : HasE g T) (hF : HasF g T) (hU : HasG g T) (F : Fm) {md : Int} (hm : 1 ≤ md ∧ md ≤ 5) {a b : Nat} (ha : a < 18446744073709551616) (hb : b < 18446744073709551616) :
    run G T 162 [.int .u8 F.u, .int .u8 md, .imm 2 [.int .u64 (a : Int), .int .u64 (b : Int)]] = some (.int .i64 (if a < 2 * F.sg ∧ b < 2 * F.sg then 0 else 6)) := by
  rw [run_k G T hU.ref05_Opens]
  have h1 := ref03_IsF (G := G) (T := T) hD F
  have h2 := ref04_Is (G := G) (T := T) hE (m := md)
  rw [decide_eq_true hm] at h2
  have h3 := ref03_Good (G := G) (T := T) hD hF F ha
  have h4 := ref03_Good (G := G) (T := T) hD hF F hb
  by_cases k1 : a < 2 * F.sg
  · rw [if_pos k1] at h3
    by_cases k2 : b < 2 * F.sg
    · rw [if_pos k2] at h4
      rw [if_pos ⟨k1, k2⟩]
      repeat' (first | (simp (maxSteps := 1000000) only [evB, if_true, if_false, ne_eq, Nat.reduceEqDiff, Nat.reduceAdd, reduceCtorEq, Int.reduceLE, Int.reduceLT, Int.reduceEq, Int.reduceNeg, Int.reduceToNat, Int.reducePow, Int.reduceMod, Int.reduceDiv, Int.reduceSub, Int.reduceAdd, Int.reduceMul, Nat.reduceMul, Nat.reduceSub, Nat.reducePow, exB, resC_ptr, res_cell, nilb, nilf, faddr_p, c_ref05_Opens, h1, h2, op5_loop, c_ref05_Opens_b1, iw20, iw21, rp_0, rp_1, wr_1, wr1, wr_2, wr2, h3, h4]) | (simp (maxSteps := 1000000) (disch := first | with_reducible assumption | omega) only [wrap_i64, iaddr_D, rd_iptr, toNat_sub_one, toNat_add_one, sl_hi, sl_lo, iaddr_own, kM_new, sub_cells, setO_cells, sub_pre, ct_fz1, dec_t, dec_f, bv_t, bv_f, tmod_nn, tdiv_nn, bin_shl, bin_shr]) | (simp only [kI_d, kG_dt, kG_df]; split) | (simp only [kI_v, kG_vt, kG_vf]; split))
    · rw [if_neg k2] at h4
      rw [if_neg (fun h => k2 h.2)]
      repeat' (first | (simp (maxSteps := 1000000) only [evB, if_true, if_false, ne_eq, Nat.reduceEqDiff, Nat.reduceAdd, reduceCtorEq, Int.reduceLE, Int.reduceLT, Int.reduceEq, Int.reduceNeg, Int.reduceToNat, Int.reducePow, Int.reduceMod, Int.reduceDiv, Int.reduceSub, Int.reduceAdd, Int.reduceMul, Nat.reduceMul, Nat.reduceSub, Nat.reducePow, exB, resC_ptr, res_cell, nilb, nilf, faddr_p, c_ref05_Opens, h1, h2, op5_loop, c_ref05_Opens_b1, iw20, iw21, rp_0, rp_1, wr_1, wr1, wr_2, wr2, h3, h4]) | (simp (maxSteps := 1000000) (disch := first | with_reducible assumption | omega) only [wrap_i64, iaddr_D, rd_iptr, toNat_sub_one, toNat_add_one, sl_hi, sl_lo, iaddr_own, kM_new, sub_cells, setO_cells, sub_pre, ct_fz1, dec_t, dec_f, bv_t, bv_f, tmod_nn, tdiv_nn, bin_shl, bin_shr]) | (simp only [kI_d, kG_dt, kG_df]; split) | (simp only [kI_v, kG_vt, kG_vf]; split))
  · rw [if_neg k1] at h3
    rw [if_neg (fun h => k1 h.1)]
    repeat' (first | (simp (maxSteps := 1000000) only [evB, if_true, if_false, ne_eq, Nat.reduceEqDiff, Nat.reduceAdd, reduceCtorEq, Int.reduceLE, Int.reduceLT, Int.reduceEq, Int.reduceNeg, Int.reduceToNat, Int.reducePow, Int.reduceMod, Int.reduceDiv, Int.reduceSub, Int.reduceAdd, Int.reduceMul, Nat.reduceMul, Nat.reduceSub, Nat.reducePow, exB, resC_ptr, res_cell, nilb, nilf, faddr_p, c_ref05_Opens, h1, h2, op5_loop, c_ref05_Opens_b1, iw20, iw21, rp_0, rp_1, wr_1, wr1, wr_2, wr2, h3]) | (simp (maxSteps := 1000000) (disch := first | with_reducible assumption | omega) only [wrap_i64, iaddr_D, rd_iptr, toNat_sub_one, toNat_add_one, sl_hi, sl_lo, iaddr_own, kM_new, sub_cells, setO_cells, sub_pre, ct_fz1, dec_t, dec_f, bv_t, bv_f, tmod_nn, tdiv_nn, bin_shl, bin_shr]) | (simp only [kI_d, kG_dt, kG_df]; split) | (simp only [kI_v, kG_vt, kG_vf]; split))
theorem opens2 (hA : HasA g T) (hG : Glob G g) (hC : HasC g T) (hD : HasD g T) (hE : HasE g T) (hF : HasF g T) (hU : HasG g T) {f md : Int} {a b : Nat} (ha : a < 18446744073709551616) (hb : b < 18446744073709551616) :
    (∃ e, e ≠ 0 ∧ run G T 162 [.int .u8 f, .int .u8 md, .imm 2 [.int .u64 (a : Int), .int .u64 (b : Int)]] = some (.int .i64 e) ∧ run G T 176 [.int .u8 f, .int .u8 md, .imm 2 [.int .u64 (a : Int), .int .u64 (b : Int)]] = some (.tup [.nil, .int .i64 e])) ∨
    (∃ F, f = Fm.u F ∧ (1 ≤ md ∧ md ≤ 5) ∧ (a < 2 * F.sg ∧ b < 2 * F.sg) ∧ run G T 162 [.int .u8 f, .int .u8 md, .imm 2 [.int .u64 (a : Int), .int .u64 (b : Int)]] = some (.int .i64 0)) := by
  by_cases hf : f = 1 ∨ f = 2
  · obtain ⟨F, rfl⟩ := fm_of hf
    by_cases hm : 1 ≤ md ∧ md ≤ 5
    · have h1 := ref05_Opens2 (G := G) (T := T) hD hE hF hU F hm ha hb
      by_cases k1 : a < 2 * F.sg
      · by_cases k2 : b < 2 * F.sg
        · rw [if_pos ⟨k1, k2⟩] at h1
          exact Or.inr ⟨F, rfl, hm, ⟨k1, k2⟩, h1⟩
        · rw [if_neg (fun h => k2 h.2)] at h1
          exact Or.inl ⟨6, by decide, h1, soft_open2_bad2 (G := G) (T := T) hA hG hC hD hE hU F hm k1 hb k2⟩
      · rw [if_neg (fun h => k1 h.1)] at h1
        exact Or.inl ⟨6, by decide, h1, soft_open2_bad1 (G := G) (T := T) hA hG hC hD hE hU F hm ha k1⟩
    · exact Or.inl ⟨5, by decide, ref05_Opens_mode hD hE hU F hm, soft_open_mode hE hU F (by omega)⟩
  · exact Or.inl ⟨4, by decide, ref05_Opens_no hD hU hf, soft_open_no hE hU hf⟩
section
variable {f md a b c e : Int}
end
end Go.Cv

/-
  The statements on sums, products, roots of words.
-/
namespace Go.Cv
variable {G : Nat → Option (List AV)} {T : Tbl} {g : Nat}

theorem law05_SoftCommutes (hA : HasA g T) (hB : HasB g T) (hC : HasC g T) (hG : Glob G g) (hD : HasD g T) (hE : HasE g T) (hF : HasF g T) (hU : HasG g T) (hK : run G T 163 [] = some (.bool true))
    {f m : Int} {a b : Nat} (ha : a < 18446744073709551616) (hb : b < 18446744073709551616) :
    run G T 159 [.int .u8 f, .int .u8 m, .int .u64 (a : Int), .int .u64 (b : Int)] = some (.bool true) := by
  rw [run_k G T hU.law05_SoftCommutes]
  rcases opens2 (G := G) (T := T) (f := f) (md := m) hA hG hC hD hE hF hU ha hb with ⟨e, he, o1, o2⟩ | ⟨F, rfl, hm, ⟨k1, k2⟩, o1⟩
  · repeat' (first | (simp (maxSteps := 1000000) only [evB, if_true, if_false, ne_eq, Nat.reduceEqDiff, Nat.reduceAdd, reduceCtorEq, Int.reduceLE, Int.reduceLT, Int.reduceEq, Int.reduceNeg, Int.reduceToNat, Int.reducePow, Int.reduceMod, Int.reduceDiv, Int.reduceSub, Int.reduceAdd, Int.reduceMul, Nat.reduceMul, Nat.reduceSub, Nat.reducePow, exB, resC_ptr, res_cell, nilb, nilf, faddr_p, c_law05_SoftCommutes, o1, he, hK]) | (simp (maxSteps := 1000000) (disch := first | with_reducible assumption | omega) only [wrap_i64, iaddr_D, rd_iptr, toNat_sub_one, toNat_add_one, sl_hi, sl_lo, iaddr_own, kM_new, sub_cells, setO_cells, sub_pre, ct_fz1, dec_t, dec_f, bv_t, bv_f, tmod_nn, tdiv_nn, bin_shl, bin_shr]) | (simp only [kI_d, kG_dt, kG_df]; split) | (simp only [kI_v, kG_vt, kG_vf]; split))
  · have r1 := soft_Add (G := G) (T := T) hA hG hC hD hE hU F hm k1 k2
    have r2 := soft_Add (G := G) (T := T) hA hG hC hD hE hU F hm k2 k1
    have r3 := soft_Mul (G := G) (T := T) hA hG hC hD hE hU F hm k1 k2
    have r4 := soft_Mul (G := G) (T := T) hA hG hC hD hE hU F hm k2 k1
    have r5 := soft_Sub (G := G) (T := T) hA hG hC hD hE hU F hm k1 k2
    have c1 : addW F m b a = addW F m a b := addP_comm F m (Nz_vl F b) (Nz_vl F a)
    have c2 : mulW2 F m b a = mulW2 F m a b := mulP_comm F m
    rw [c1] at r2
    rw [c2] at r4
    have cl := ref03_Class (G := G) (T := T) hD hF F hb
    have sg := ref03_Sign (G := G) (T := T) hD F
    by_cases h5 : F.cls b = 5
    · have W : subW F m a b = addW F m a b := by
        unfold subW addW addP; rw [if_pos (Or.inr h5), if_pos (Or.inr h5)]
      rw [W] at r5
      rw [h5] at cl
      generalize addW F m a b = S1 at *
      generalize mulW2 F m a b = S2 at *
      repeat' (first | (simp (maxSteps := 1000000) only [evB, if_true, if_false, ne_eq, Nat.reduceEqDiff, Nat.reduceAdd, reduceCtorEq, Int.reduceLE, Int.reduceLT, Int.reduceEq, Int.reduceNeg, Int.reduceToNat, Int.reducePow, Int.reduceMod, Int.reduceDiv, Int.reduceSub, Int.reduceAdd, Int.reduceMul, Nat.reduceMul, Nat.reduceSub, Nat.reducePow, exB, resC_ptr, res_cell, nilb, nilf, faddr_p, c_law05_SoftCommutes, o1, r1, r2, r3, r4, cl, r5, hK]) | (simp (maxSteps := 1000000) (disch := first | with_reducible assumption | omega) only [wrap_i64, iaddr_D, rd_iptr, toNat_sub_one, toNat_add_one, sl_hi, sl_lo, iaddr_own, kM_new, sub_cells, setO_cells, sub_pre, ct_fz1, dec_t, dec_f, bv_t, bv_f, tmod_nn, tdiv_nn, bin_shl, bin_shr]) | (simp only [kI_d, kG_dt, kG_df]; split) | (simp only [kI_v, kG_vt, kG_vf]; split))
    · obtain ⟨f1, f2, f3, f4⟩ := flip_facts k2
      have r6 := soft_Add (G := G) (T := T) hA hG hC hD hE hU F hm k1 f1
      rw [subW_flip F m k2] at r5
      have hn := ng_spec F b
      have sd := ref03_Signed (G := G) (T := T) hD F (n := !F.ng b) (w := b)
      rw [show b % F.sg + F.sgn (!F.ng b) = F.flip b from rfl] at sd
      generalize addW F m a (F.flip b) = S3 at *
      generalize F.flip b = fb at *
      generalize addW F m a b = S1 at *
      generalize mulW2 F m a b = S2 at *
      generalize F.cls b = cb at *
      rcases hn with ⟨hn, hl⟩ | ⟨hn, hl⟩
      · rw [hn] at sd
        simp only [Bool.not_true] at sd
        have c3 : ¬ (b : Int) < (F.sg : Int) := by omega
        repeat' (first | (simp (maxSteps := 1000000) only [evB, if_true, if_false, ne_eq, Nat.reduceEqDiff, Nat.reduceAdd, reduceCtorEq, Int.reduceLE, Int.reduceLT, Int.reduceEq, Int.reduceNeg, Int.reduceToNat, Int.reducePow, Int.reduceMod, Int.reduceDiv, Int.reduceSub, Int.reduceAdd, Int.reduceMul, Nat.reduceMul, Nat.reduceSub, Nat.reducePow, exB, resC_ptr, res_cell, nilb, nilf, faddr_p, c_law05_SoftCommutes, o1, r1, r2, r3, r4, cl, h5, sg, c3, sd, r5, r6, hK]) | (simp (maxSteps := 1000000) (disch := first | with_reducible assumption | omega) only [wrap_i64, iaddr_D, rd_iptr, toNat_sub_one, toNat_add_one, sl_hi, sl_lo, iaddr_own, kM_new, sub_cells, setO_cells, sub_pre, ct_fz1, dec_t, dec_f, bv_t, bv_f, tmod_nn, tdiv_nn, bin_shl, bin_shr]) | (simp only [kI_d, kG_dt, kG_df]; split) | (simp only [kI_v, kG_vt, kG_vf]; split))
      · rw [hn] at sd
        simp only [Bool.not_false] at sd
        have c3 : (b : Int) < (F.sg : Int) := by omega
        repeat' (first | (simp (maxSteps := 1000000) only [evB, if_true, if_false, ne_eq, Nat.reduceEqDiff, Nat.reduceAdd, reduceCtorEq, Int.reduceLE, Int.reduceLT, Int.reduceEq, Int.reduceNeg, Int.reduceToNat, Int.reducePow, Int.reduceMod, Int.reduceDiv, Int.reduceSub, Int.reduceAdd, Int.reduceMul, Nat.reduceMul, Nat.reduceSub, Nat.reducePow, exB, resC_ptr, res_cell, nilb, nilf, faddr_p, c_law05_SoftCommutes, o1, r1, r2, r3, r4, cl, h5, sg, c3, sd, r5, r6, hK]) | (simp (maxSteps := 1000000) (disch := first | with_reducible assumption | omega) only [wrap_i64, iaddr_D, rd_iptr, toNat_sub_one, toNat_add_one, sl_hi, sl_lo, iaddr_own, kM_new, sub_cells, setO_cells, sub_pre, ct_fz1, dec_t, dec_f, bv_t, bv_f, tmod_nn, tdiv_nn, bin_shl, bin_shr]) | (simp only [kI_d, kG_dt, kG_df]; split) | (simp only [kI_v, kG_vt, kG_vf]; split))
end Go.Cv
