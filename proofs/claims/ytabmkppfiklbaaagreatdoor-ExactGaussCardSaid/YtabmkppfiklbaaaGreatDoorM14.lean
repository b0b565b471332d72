/-
  A part of the proof of the statements of this seat (texts that the law's own text leans on): no condition.
-/
import Derived.Test.YtabmkppfiklbaaaGreatDoorM13
import Derived.Test.YtabmkppfiklbaaaGreatDoorM6
import Derived.Test.YtabmkppfiklbaaaGreatDoorM11
set_option linter.unusedVariables false
set_option linter.unusedSimpArgs false
namespace Go.Cv
variable {G : Nat → Option (List AV)} {T : Tbl} {g : Nat}
theorem Nz_mul (a b : Dy) : Nz (mulD a b) := Nz_mk _ _ _
theorem Bd_mul {a b : Dy} {K : Nat} (ha : Bd a K) (hb : Bd b K) : Bd (mulD a b) (4 * K) := by
  obtain ⟨a1, a2, a3⟩ := ha
  obtain ⟨b1, b2, b3⟩ := hb
  have hb : blen (a.m * b.m) ≤ 2 * K := by
    refine blen_le.2 ?_
    rw [show 2 * K = K + K by omega, Nat.pow_add]
    exact Nat.mul_lt_mul_of_lt_of_lt (blen_le.1 a1) (blen_le.1 b1)
  exact Bd_mk (by omega) (by omega) (by omega)
theorem mayD_nzb {d : Dy} (h : Nz d) (b : Bd d 131072) : mayD d.n (dl d.m) d.e = true := by
  obtain ⟨b1, b2, b3⟩ := b
  have hm : mayL (dl d.m) = true := mayL_small b1
  simp only [mayD, hm, Bool.true_and]
  by_cases h0 : d.m = 0
  · rw [h.1 h0, dl_zero]; rfl
  · have h1 : ¬ (dl d.m).length = 0 := fun hc => h0 (dl_len0.1 hc)
    rw [if_neg h1, dg0]
    have h2 := h.2 h0
    simp only [Bool.and_eq_true, decide_eq_true_eq]
    exact ⟨h2, by omega, by omega⟩
theorem sgnD_zero {d : Dy} : sgnD d = 0 ↔ d.m = 0 := by
  unfold sgnD
  by_cases h : d.m = 0
  · rw [if_pos h]; exact ⟨fun _ => h, fun _ => rfl⟩
  · rw [if_neg h]
    constructor
    · intro hc; split at hc <;> omega
    · intro hc; exact absurd hc h
theorem ref03_None (J : Al G T g) (F : Fm) : run G T 157 [.int .u8 F.u] = some (.int .u64 (F.nan : Int)) := by
  rw [run_k G T J.F.ref03_None]
  have h1 := ref03_Most J F
  have h2 := ref03_Frac J F
  cases F
  · have h4 := ref03_Join J .s (n := false) (x := 255) (w := 4194304) (by decide) (Or.inl (by decide))
    simp only [fldA, Fm.u, Fm.fr, Fm.most, Fm.nan, Fm.inf, Fm.sgn, Fm.sg, Int.cast_ofNat_Int, Nat.reducePow, Nat.reduceMul, Nat.reduceSub, Nat.reduceAdd, Bool.false_eq_true, if_false] at *
    repeat' (first | (simp (maxSteps := 9^7) only [seval, exC, c_ref03_None, h1, h2, h4]) | (simp (maxSteps := 9^7) (disch := first | with_reducible assumption | omega) only [dxB]) | (simp only [kdB]; split) | (simp only [kvB]; split))
  · have h4 := ref03_Join J .d (n := false) (x := 2047) (w := 2251799813685248) (by decide) (Or.inl (by decide))
    simp only [fldA, Fm.u, Fm.fr, Fm.most, Fm.nan, Fm.inf, Fm.sgn, Fm.sg, Int.cast_ofNat_Int, Nat.reducePow, Nat.reduceMul, Nat.reduceSub, Nat.reduceAdd, Bool.false_eq_true, if_false] at *
    repeat' (first | (simp (maxSteps := 9^7) only [seval, exC, c_ref03_None, h1, h2, h4]) | (simp (maxSteps := 9^7) (disch := first | with_reducible assumption | omega) only [dxB]) | (simp only [kdB]; split) | (simp only [kvB]; split))
theorem ref05_neg (J : Al G T g) (F : Fm) {w : Nat} : run G T 233 [.int .u8 F.u, .int .u64 (w : Int)] = some (.bool (F.ng w)) := by
  rw [run_k G T J.H.ref05_neg]
  have h1 := ref03_Sign J F
  have h2 : decide ((F.sg : Int) ≤ (w : Int)) = F.ng w := by unfold Fm.ng; congr 1; apply propext; omega
  repeat' (first | (simp (maxSteps := 9^7) only [seval, exC, c_ref05_neg, h1, h2]) | (simp (maxSteps := 9^7) (disch := first | with_reducible assumption | omega) only [dxB]) | (simp only [kdB]; split) | (simp only [kvB]; split))
theorem ref05_nan (J : Al G T g) (F : Fm) {w : Nat} (hw : w < 2 * F.sg) : run G T 230 [.int .u8 F.u, .int .u64 (w : Int)] = some (.bool (decide (F.cls w = 5))) := by
  rw [run_k G T J.H.ref05_nan]
  have h1 := ref03_Class J F (sg_64 hw)
  repeat' (first | (simp (maxSteps := 9^7) only [seval, exC, c_ref05_nan, h1]) | (simp (maxSteps := 9^7) (disch := first | with_reducible assumption | omega) only [dxB]) | (simp only [kdB]; split) | (simp only [kvB]; split))
theorem ref05_inf (J : Al G T g) (F : Fm) {w : Nat} (hw : w < 2 * F.sg) : run G T 231 [.int .u8 F.u, .int .u64 (w : Int)] = some (.bool (decide (F.cls w = 4))) := by
  rw [run_k G T J.H.ref05_inf]
  have h1 := ref03_Class J F (sg_64 hw)
  repeat' (first | (simp (maxSteps := 9^7) only [seval, exC, c_ref05_inf, h1]) | (simp (maxSteps := 9^7) (disch := first | with_reducible assumption | omega) only [dxB]) | (simp only [kdB]; split) | (simp only [kvB]; split))
theorem ref05_zero (J : Al G T g) (F : Fm) {w : Nat} (hw : w < 2 * F.sg) : run G T 232 [.int .u8 F.u, .int .u64 (w : Int)] = some (.bool (decide (F.cls w = 1))) := by
  rw [run_k G T J.H.ref05_zero]
  have h1 := ref03_Class J F (sg_64 hw)
  repeat' (first | (simp (maxSteps := 9^7) only [seval, exC, c_ref05_zero, h1]) | (simp (maxSteps := 9^7) (disch := first | with_reducible assumption | omega) only [dxB]) | (simp only [kdB]; split) | (simp only [kvB]; split))
theorem ref05_Nothing (J : Al G T g) (F : Fm) {md : Int} : run G T 234 [.int .u8 F.u, .int .u8 md] = some (.int .u64 ((F.sgn (decide (md = 5)) : Nat) : Int)) := by
  rw [run_k G T J.H.ref05_Nothing]
  have h1 := ref03_Signed J F (n := decide (md = 5)) (w := 0)
  rw [Nat.zero_mod, Nat.zero_add, cast0] at h1
  repeat' (first | (simp (maxSteps := 9^7) only [seval, exC, c_ref05_Nothing, h1]) | (simp (maxSteps := 9^7) (disch := first | with_reducible assumption | omega) only [dxB]) | (simp only [kdB]; split) | (simp only [kvB]; split))
theorem ref_sum (J : Al G T g) (F : Fm) {md : Int} (hm : 1 ≤ md ∧ md ≤ 5) {z : Bool} {d : Dy} (hz : Nz d) (hb : Bd d 131072) :
    run G T 16 [DyA z d] = some (.int .i64 (sgnD d)) ∧
    ((sgnD d = 0 ∧ run G T 234 [.int .u8 F.u, .int .u8 md] = some (.int .u64 ((sumW F md d).1 : Int)) ∧ (sumW F md d).2 = 0) ∨
     (¬ sgnD d = 0 ∧ run G T 12 [.int .u8 F.u, .int .u8 md, DyA z d] = some (.tup [.int .u64 ((sumW F md d).1 : Int), .int .u8 ((sumW F md d).2 : Int)]))) := by
  refine ⟨ref02_Sign J, ?_⟩
  by_cases h0 : d.m = 0
  · left
    have h1 := ref05_Nothing J F (md := md)
    unfold sumW
    rw [if_pos h0]
    exact ⟨sgnD_zero.2 h0, h1, rfl⟩
  · right
    have h1 := ref04_Round J F hm (z := z) hz (hb.mono (by decide))
    unfold sumW
    rw [if_neg h0]
    exact ⟨fun h => h0 (sgnD_zero.1 h), h1⟩
theorem addW_split (F : Fm) (md : Int) {a b : Nat} (ha : a < 2 * F.sg) (hb : b < 2 * F.sg) :
    (F.cls a = 5 ∧ addW F md a b = (F.nan, 0)) ∨ (F.cls a ≠ 5 ∧ F.cls b = 5 ∧ addW F md a b = (F.nan, 0)) ∨
    (F.cls a = 4 ∧ F.cls b = 4 ∧ a = b ∧ addW F md a b = (a, 0)) ∨ (F.cls a = 4 ∧ F.cls b = 4 ∧ a ≠ b ∧ addW F md a b = (F.nan, 1)) ∨
    (F.cls a = 4 ∧ F.cls b ≠ 4 ∧ F.cls b ≠ 5 ∧ addW F md a b = (a, 0)) ∨ (F.cls a ≠ 4 ∧ F.cls a ≠ 5 ∧ F.cls b = 4 ∧ addW F md a b = (b, 0)) ∨
    (F.fin a ∧ F.fin b ∧ F.cls a = 1 ∧ a = b ∧ addW F md a b = (a, 0)) ∨ (F.fin a ∧ F.fin b ∧ (F.cls a ≠ 1 ∨ a ≠ b) ∧ addW F md a b = sumW F md (addD (F.vl a) (F.vl b))) := by
  unfold addW addP
  have ra := cls_range F a
  have rb := cls_range F b
  by_cases a5 : F.cls a = 5
  · left; exact ⟨a5, if_pos (Or.inl a5)⟩
  · right
    by_cases b5 : F.cls b = 5
    · left; exact ⟨a5, b5, if_pos (Or.inr b5)⟩
    · right
      rw [if_neg (by omega)]
      by_cases a4 : F.cls a = 4
      · have ea := cls_inf_w ha a4
        by_cases b4 : F.cls b = 4
        · have eb := cls_inf_w hb b4
          by_cases hn : F.ng a = F.ng b
          · left
            refine ⟨a4, b4, by rw [ea, eb, hn], ?_⟩
            rw [if_neg (fun h => h.2.2 hn), if_pos a4, ← ea]
          · right; left
            refine ⟨a4, b4, ?_, if_pos ⟨a4, b4, hn⟩⟩
            intro hc; exact hn (by rw [hc])
        · right; right; left
          refine ⟨a4, b4, b5, ?_⟩
          rw [if_neg (fun h => b4 h.2.1), if_pos a4, ← ea]
      · by_cases b4 : F.cls b = 4
        · right; right; right; left
          refine ⟨a4, a5, b4, ?_⟩
          rw [if_neg (fun h => a4 h.1), if_neg a4, if_pos b4, ← cls_inf_w hb b4]
        · right; right; right; right
          have fa : F.fin a := fin_iff.2 (by omega)
          have fb : F.fin b := fin_iff.2 (by omega)
          rw [if_neg (fun h => a4 h.1), if_neg a4, if_neg b4]
          by_cases h1 : F.cls a = 1 ∧ a = b
          · left
            refine ⟨fa, fb, h1.1, h1.2, ?_⟩
            rw [if_pos ⟨h1.1, by rw [← h1.2]; exact h1.1, by rw [h1.2]⟩, ← (cls_zero_w ha h1.1).1]
          · right
            refine ⟨fa, fb, ?_, ?_⟩
            · by_cases q : F.cls a = 1
              · exact Or.inr (fun hc => h1 ⟨q, hc⟩)
              · exact Or.inl q
            · rw [if_neg]
              rintro ⟨q1, q2, q3⟩
              exact h1 ⟨q1, by rw [(cls_zero_w ha q1).1, (cls_zero_w hb q2).1, q3]⟩
theorem vl_val {F : Fm} {w : Nat} (h : F.fin w) : F.vl w = F.val w := if_pos h
theorem ref05_Add (J : Al G T g) (F : Fm) {md : Int} (hm : 1 ≤ md ∧ md ≤ 5) {a b : Nat} (ha : a < 2 * F.sg) (hb : b < 2 * F.sg) :
    run G T 219 [.int .u8 F.u, .int .u8 md, .int .u64 (a : Int), .int .u64 (b : Int)] = some (.tup [.int .u64 ((addW F md a b).1 : Int), .int .u8 ((addW F md a b).2 : Int)]) := by
  rw [run_k G T J.H.ref05_Add]
  have na := ref05_nan J F ha
  have nb := ref05_nan J F hb
  have ia := ref05_inf J F ha
  have ib := ref05_inf J F hb
  have za := ref05_zero J F ha
  have nn := ref03_None J F
  have ra := cls_range F a
  have rb := cls_range F b
  rcases addW_split F md ha hb with ⟨h1, W⟩ | ⟨h1, h2, W⟩ | ⟨h1, h2, h3, W⟩ | ⟨h1, h2, h3, W⟩ | ⟨h1, h2, h3, W⟩ | ⟨h1, h2, h3, W⟩ | ⟨h1, h2, h3, h4, W⟩ | ⟨h1, h2, h3, W⟩
  · rw [W]
    rw [decide_eq_true h1] at na
    repeat' (first | (simp (maxSteps := 9^7) only [seval, exC, c_ref05_Add, na, nn]) | (simp (maxSteps := 9^7) (disch := first | with_reducible assumption | omega) only [dxB]) | (simp only [kdB]; split) | (simp only [kvB]; split))
    all_goals rfl
  · rw [W]
    rw [decide_eq_false h1] at na
    rw [decide_eq_true h2] at nb
    repeat' (first | (simp (maxSteps := 9^7) only [seval, exC, c_ref05_Add, na, nb, nn]) | (simp (maxSteps := 9^7) (disch := first | with_reducible assumption | omega) only [dxB]) | (simp only [kdB]; split) | (simp only [kvB]; split))
    all_goals rfl
  · rw [W]
    rw [decide_eq_false (by omega)] at na nb
    rw [decide_eq_true h1] at ia
    rw [decide_eq_true h2] at ib
    subst h3
    repeat' (first | (simp (maxSteps := 9^7) only [seval, exC, c_ref05_Add, na, nb, ia, ib]) | (simp (maxSteps := 9^7) (disch := first | with_reducible assumption | omega) only [dxB]) | (simp only [kdB]; split) | (simp only [kvB]; split))
    all_goals rfl
  · rw [W]
    rw [decide_eq_false (by omega)] at na nb
    rw [decide_eq_true h1] at ia
    rw [decide_eq_true h2] at ib
    have hab : ¬ (a : Int) = (b : Int) := by omega
    repeat' (first | (simp (maxSteps := 9^7) only [seval, exC, c_ref05_Add, na, nb, ia, ib, hab, nn]) | (simp (maxSteps := 9^7) (disch := first | with_reducible assumption | omega) only [dxB]) | (simp only [kdB]; split) | (simp only [kvB]; split))
    all_goals rfl
  · rw [W]
    rw [decide_eq_false (by omega)] at na nb
    rw [decide_eq_true h1] at ia
    rw [decide_eq_false h2] at ib
    repeat' (first | (simp (maxSteps := 9^7) only [seval, exC, c_ref05_Add, na, nb, ia, ib]) | (simp (maxSteps := 9^7) (disch := first | with_reducible assumption | omega) only [dxB]) | (simp only [kdB]; split) | (simp only [kvB]; split))
    all_goals rfl
  · rw [W]
    rw [decide_eq_false (by omega)] at na nb
    rw [decide_eq_false h1] at ia
    rw [decide_eq_true h3] at ib
    repeat' (first | (simp (maxSteps := 9^7) only [seval, exC, c_ref05_Add, na, nb, ia, ib]) | (simp (maxSteps := 9^7) (disch := first | with_reducible assumption | omega) only [dxB]) | (simp only [kdB]; split) | (simp only [kvB]; split))
    all_goals rfl
  · rw [W]
    have q1 := fin_iff.1 h1
    have q2 := fin_iff.1 h2
    rw [decide_eq_false (by omega)] at na nb ia ib
    rw [decide_eq_true h3] at za
    subst h4
    repeat' (first | (simp (maxSteps := 9^7) only [seval, exC, c_ref05_Add, na, nb, ia, ib, za]) | (simp (maxSteps := 9^7) (disch := first | with_reducible assumption | omega) only [dxB]) | (simp only [kdB]; split) | (simp only [kvB]; split))
    all_goals rfl
  · rw [W]
    have q1 := fin_iff.1 h1
    have q2 := fin_iff.1 h2
    rw [decide_eq_false (by omega)] at na nb ia ib
    obtain ⟨z1, v1⟩ := ref03_Value J F (sg_64 ha) h1
    obtain ⟨z2, v2⟩ := ref03_Value J F (sg_64 hb) h2
    rw [← vl_val h1] at v1
    rw [← vl_val h2] at v2
    have b1 := Bd_vl F a
    have b2 := Bd_vl F b
    obtain ⟨z3, s1⟩ := ref02_Add J (z := z1) (y := z2) (b1.mono (by decide)) (b2.mono (by decide))
    obtain ⟨g1, g2⟩ := ref_sum J F hm (z := z3) (Nz_add (Nz_vl F a) (Nz_vl F b)) ((Bd_add b1 b2).mono (by decide))
    generalize sumW F md (addD (F.vl a) (F.vl b)) = S at *
    generalize addD (F.vl a) (F.vl b) = s at *
    generalize F.vl a = va at *
    generalize F.vl b = vb at *
    have hza : (F.cls a = 1 ∧ ¬ (a : Int) = (b : Int)) ∨ ¬ F.cls a = 1 := by omega
    clear b1 b2 W ra rb q1 q2 h3 nn
    simp only [DyA, A3] at *
    rcases hza with ⟨k1, k2⟩ | k1
    · rw [decide_eq_true k1] at za
      rcases g2 with ⟨g3, g4, g5⟩ | ⟨g3, g4⟩
      · rw [g5, cast0]
        repeat' (first | (simp (maxSteps := 9^7) only [seval, exC, c_ref05_Add, na, nb, ia, ib, za, k2, v1, v2, s1, g1, g3, g4]) | (simp (maxSteps := 9^7) (disch := first | with_reducible assumption | omega) only [dxB]) | (simp only [kdB]; split) | (simp only [kvB]; split))
        all_goals try rfl
      · repeat' (first | (simp (maxSteps := 9^7) only [seval, exC, c_ref05_Add, na, nb, ia, ib, za, k2, v1, v2, s1, g1, g3, g4]) | (simp (maxSteps := 9^7) (disch := first | with_reducible assumption | omega) only [dxB]) | (simp only [kdB]; split) | (simp only [kvB]; split))
        all_goals try rfl
    · rw [decide_eq_false k1] at za
      rcases g2 with ⟨g3, g4, g5⟩ | ⟨g3, g4⟩
      · rw [g5, cast0]
        repeat' (first | (simp (maxSteps := 9^7) only [seval, exC, c_ref05_Add, na, nb, ia, ib, za, v1, v2, s1, g1, g3, g4]) | (simp (maxSteps := 9^7) (disch := first | with_reducible assumption | omega) only [dxB]) | (simp only [kdB]; split) | (simp only [kvB]; split))
        all_goals try rfl
      · repeat' (first | (simp (maxSteps := 9^7) only [seval, exC, c_ref05_Add, na, nb, ia, ib, za, v1, v2, s1, g1, g3, g4]) | (simp (maxSteps := 9^7) (disch := first | with_reducible assumption | omega) only [dxB]) | (simp only [kdB]; split) | (simp only [kvB]; split))
        all_goals try rfl
theorem ref05_Sub (J : Al G T g) (F : Fm) {md : Int} (hm : 1 ≤ md ∧ md ≤ 5) {a b : Nat} (ha : a < 2 * F.sg) (hb : b < 2 * F.sg) :
    run G T 220 [.int .u8 F.u, .int .u8 md, .int .u64 (a : Int), .int .u64 (b : Int)] = some (.tup [.int .u64 ((subW F md a b).1 : Int), .int .u8 ((subW F md a b).2 : Int)]) := by
  rw [run_k G T J.H.ref05_Sub]
  have nb := ref05_nan J F hb
  have gb := ref05_neg J F (w := b)
  obtain ⟨f1, f2, f3, f4⟩ := flip_facts hb
  have sd := ref03_Signed J F (n := !F.ng b) (w := b)
  rw [show b % F.sg + F.sgn (!F.ng b) = F.flip b from rfl] at sd
  by_cases h1 : F.cls b = 5
  · rw [decide_eq_true h1] at nb
    have ad := ref05_Add J F hm ha hb
    have W : subW F md a b = addW F md a b := by
      unfold subW addW addP; rw [if_pos (Or.inr h1), if_pos (Or.inr h1)]
    rw [W]
    repeat' (first | (simp (maxSteps := 9^7) only [seval, exC, c_ref05_Sub, nb, ad]) | (simp (maxSteps := 9^7) (disch := first | with_reducible assumption | omega) only [dxB]) | (simp only [kdB]; split) | (simp only [kvB]; split))
    all_goals try rfl
  · rw [decide_eq_false h1] at nb
    have ad := ref05_Add J F hm ha f1
    rw [subW_flip F md hb]
    generalize addW F md a (F.flip b) = W at *
    generalize F.flip b = c at *
    cases hn : F.ng b <;> (
      rw [hn] at gb sd
      simp only [Bool.not_true, Bool.not_false] at sd
      repeat' (first | (simp (maxSteps := 9^7) only [seval, exC, c_ref05_Sub, nb, gb, sd, ad]) | (simp (maxSteps := 9^7) (disch := first | with_reducible assumption | omega) only [dxB]) | (simp only [kdB]; split) | (simp only [kvB]; split))
      all_goals try rfl)
structure KindR (G : Nat → Option (List AV)) (T : Tbl) (F : Fm) (w : Nat) (n i z : Bool) : Prop where
  nan : run G T 230 [.int .u8 F.u, .int .u64 (w : Int)] = some (.bool n)
  inf : run G T 231 [.int .u8 F.u, .int .u64 (w : Int)] = some (.bool i)
  zer : run G T 232 [.int .u8 F.u, .int .u64 (w : Int)] = some (.bool z)
theorem ref05_kind (J : Al G T g) (F : Fm) {w : Nat} (hw : w < 2 * F.sg) :
    (F.cls w = 5 ∧ KindR G T F w true false false) ∨ (F.cls w = 4 ∧ KindR G T F w false true false) ∨ (F.cls w = 1 ∧ KindR G T F w false false true) ∨ ((F.fin w ∧ F.cls w ≠ 1 ∧ F.cls w ≠ 4 ∧ F.cls w ≠ 5) ∧ KindR G T F w false false false) := by
  have h1 := ref05_nan J F hw
  have h2 := ref05_inf J F hw
  have h3 := ref05_zero J F hw
  have r := cls_range F w
  by_cases a : F.cls w = 5
  · left; rw [decide_eq_true a] at h1; rw [decide_eq_false (by omega)] at h2 h3; exact ⟨a, h1, h2, h3⟩
  · right
    by_cases b : F.cls w = 4
    · left; rw [decide_eq_true b] at h2; rw [decide_eq_false (by omega)] at h1 h3; exact ⟨b, h1, h2, h3⟩
    · right
      by_cases c : F.cls w = 1
      · left; rw [decide_eq_true c] at h3; rw [decide_eq_false (by omega)] at h1 h2; exact ⟨c, h1, h2, h3⟩
      · right; rw [decide_eq_false (by omega)] at h1 h2 h3; exact ⟨⟨fin_iff.2 (by omega), c, b, a⟩, h1, h2, h3⟩
set_option maxHeartbeats 16000000 in
theorem ref05_Mul (J : Al G T g) (F : Fm) {md : Int} (hm : 1 ≤ md ∧ md ≤ 5) {a b : Nat} (ha : a < 2 * F.sg) (hb : b < 2 * F.sg) :
    run G T 222 [.int .u8 F.u, .int .u8 md, .int .u64 (a : Int), .int .u64 (b : Int)] = some (.tup [.int .u64 ((mulW2 F md a b).1 : Int), .int .u8 ((mulW2 F md a b).2 : Int)]) := by
  rw [run_k G T J.H.ref05_Mul]
  have nn := ref03_None J F
  have ga := ref05_neg J F (w := a)
  have gb := ref05_neg J F (w := b)
  have inf := ref03_Inf J F (n := F.ng a != F.ng b)
  have sg := ref03_Signed J F (n := F.ng a != F.ng b) (w := 0)
  rw [Nat.zero_mod, Nat.zero_add, cast0] at sg
  unfold mulW2 mulP
  rcases ref05_kind J F ha with ⟨ka, na, ia, za⟩ | ⟨ka, na, ia, za⟩ | ⟨ka, na, ia, za⟩ | ⟨⟨fa, ka, ka2, ka3⟩, na, ia, za⟩
  · rw [if_pos (Or.inl ka)]
    repeat' (first | (simp (maxSteps := 9^7) only [seval, exC, c_ref05_Mul, na, nn]) | (simp (maxSteps := 9^7) (disch := first | with_reducible assumption | omega) only [dxB]) | (simp only [kdB]; split) | (simp only [kvB]; split))
    all_goals rfl
  all_goals rcases ref05_kind J F hb with ⟨kb, nb, ib, zb⟩ | ⟨kb, nb, ib, zb⟩ | ⟨kb, nb, ib, zb⟩ | ⟨⟨fb, kb, kb2, kb3⟩, nb, ib, zb⟩
  all_goals try (
    rw [if_pos (Or.inr kb)]
    repeat' (first | (simp (maxSteps := 9^7) only [seval, exC, c_ref05_Mul, na, nb, nn]) | (simp (maxSteps := 9^7) (disch := first | with_reducible assumption | omega) only [dxB]) | (simp only [kdB]; split) | (simp only [kvB]; split))
    all_goals rfl
    done)
  all_goals rw [if_neg (by omega)]
  all_goals try (
    rw [if_pos (by omega)]
    repeat' (first | (simp (maxSteps := 9^7) only [seval, exC, c_ref05_Mul, na, nb, ia, za, ib, zb, nn]) | (simp (maxSteps := 9^7) (disch := first | with_reducible assumption | omega) only [dxB]) | (simp only [kdB]; split) | (simp only [kvB]; split))
    all_goals rfl
    done)
  all_goals try rw [if_neg (show ¬ ((F.cls a = 4 ∨ F.cls b = 4) ∧ (F.cls a = 1 ∨ F.cls b = 1)) by omega)]
  all_goals try (
    rw [if_pos (show F.cls a = 4 ∨ F.cls b = 4 by omega)]
    generalize F.ng a = x at *
    generalize F.ng b = y at *
    cases x <;> cases y <;> (
      simp only [bne_self_eq_false, Bool.false_bne, Bool.true_bne, Bool.not_true, Bool.not_false, Bool.bne_true, Bool.bne_false] at inf ⊢
      repeat' (first | (simp (maxSteps := 9^7) only [seval, exC, c_ref05_Mul, na, nb, ia, za, ib, zb, ga, gb, inf]) | (simp (maxSteps := 9^7) (disch := first | with_reducible assumption | omega) only [dxB]) | (simp only [kdB]; split) | (simp only [kvB]; split))
      all_goals rfl)
    done)
  all_goals try rw [if_neg (show ¬ (F.cls a = 4 ∨ F.cls b = 4) by omega)]
  all_goals try (
    rw [if_pos (show F.cls a = 1 ∨ F.cls b = 1 by omega)]
    generalize F.ng a = x at *
    generalize F.ng b = y at *
    cases x <;> cases y <;> (
      simp only [bne_self_eq_false, Bool.false_bne, Bool.true_bne, Bool.not_true, Bool.not_false, Bool.bne_true, Bool.bne_false] at sg ⊢
      repeat' (first | (simp (maxSteps := 9^7) only [seval, exC, c_ref05_Mul, na, nb, ia, za, ib, zb, ga, gb, sg]) | (simp (maxSteps := 9^7) (disch := first | with_reducible assumption | omega) only [dxB]) | (simp only [kdB]; split) | (simp only [kvB]; split))
      all_goals rfl)
    done)
  rw [if_neg (show ¬ (F.cls a = 1 ∨ F.cls b = 1) by omega)]
  obtain ⟨z1, v1⟩ := ref03_Value J F (sg_64 ha) fa
  obtain ⟨z2, v2⟩ := ref03_Value J F (sg_64 hb) fb
  have m1 := val_cls ha ka fa
  have m2 := val_cls hb kb fb
  rw [← vl_val fa] at v1 m1
  rw [← vl_val fb] at v2 m2
  have b1 := Bd_vl F a
  have b2 := Bd_vl F b
  obtain ⟨p1, p2, p3⟩ := b1
  obtain ⟨q1, q2, q3⟩ := b2
  have hl1 := dl_len_blen (F.vl a).m
  have hl2 := dl_len_blen (F.vl b).m
  obtain ⟨z3, s1⟩ := ref02_Mul J (z := z1) (y := z2) (a := F.vl a) (b := F.vl b) (by omega) (by omega) (by omega) (by omega)
  have r1 := ref04_Round J F hm (z := z3) (Nz_mul (F.vl a) (F.vl b)) ((Bd_mul (Bd_vl F a) (Bd_vl F b)).mono (by decide))
  have hne : (F.vl a).m * (F.vl b).m ≠ 0 := by
    intro hc
    rcases Nat.mul_eq_zero.1 hc with h | h
    · exact m1 h
    · exact m2 h
  have hm0 : (mulD (F.vl a) (F.vl b)).m ≠ 0 := mkD_m0 hne _
  unfold sumW
  rw [if_neg hm0]
  rw [show mkD ((F.vl a).n != (F.vl b).n) ((F.vl a).m * (F.vl b).m) ((F.vl a).e + (F.vl b).e) = mulD (F.vl a) (F.vl b) from rfl] at s1
  generalize rndW F md (mulD (F.vl a) (F.vl b)) = S at *
  generalize mulD (F.vl a) (F.vl b) = s at *
  clear p1 p2 p3 q1 q2 q3 hl1 hl2 m1 m2 hne hm0
  generalize F.vl a = va at *
  generalize F.vl b = vb at *
  simp only [DyA, A3] at *
  repeat' (first | (simp (maxSteps := 9^7) only [seval, exC, c_ref05_Mul, na, nb, ia, za, ib, zb, ga, gb, v1, v2, s1, r1]) | (simp (maxSteps := 9^7) (disch := first | with_reducible assumption | omega) only [dxB]) | (simp only [kdB]; split) | (simp only [kvB]; split))
  all_goals try rfl
def apB (bs : List Blk) (f : List Nat) (b n : Nat) (o : Option Blk) (w : Option (List AV)) : Option (AV × Heap) :=
  match w with
  | some nw => match o with
    | some k => if k.dead = false ∧ f.contains b = false ∧ n * 5 ≤ k.cs.length ∧ (n + 1) * 49 ≤ boundBytes then some (.own bs.length 0 (n + 1) 5, ⟨bs.set b ⟨k.cs, true⟩ ++ [⟨k.cs.take (n * 5) ++ nw, false⟩], f⟩) else none
    | none => none
  | none => none
theorem ap_x (bs : List Blk) (f : List Nat) (b n c : Nat) : appV ⟨bs, f⟩ 5 48 (.own b 0 n 5) (.own c 0 1 5) = apB bs f b n (bs[b]?) (subB (bs[c]?) 0 5) := by
  have h1 := rdBlk_x bs f c 0 5
  simp only [appV, sliceCells, if_true, Nat.one_mul, h1]
  cases subB (bs[c]?) 0 5 with
  | none => rfl
  | some nw =>
    simp only [Option.map_some, apB]
    cases bs[b]? with
    | none => rfl
    | some k => simp
theorem ap_0 (bs : List Blk) (b : Nat) (cs nw : List AV) : apB bs [] b 0 (some ⟨cs, false⟩) (some nw) = some (.own bs.length 0 1 5, ⟨bs.set b ⟨cs, true⟩ ++ [⟨nw, false⟩], []⟩) := by
  simp [apB, boundBytes]
theorem ap_1 (bs : List Blk) (b : Nat) (x1 x2 x3 x4 x5 : AV) (nw : List AV) : apB bs [] b 1 (some ⟨[x1, x2, x3, x4, x5], false⟩) (some nw) = some (.own bs.length 0 2 5, ⟨bs.set b ⟨[x1, x2, x3, x4, x5], true⟩ ++ [⟨x1 :: x2 :: x3 :: x4 :: x5 :: nw, false⟩], []⟩) := by
  simp [apB, boundBytes]
theorem st_bs5 (F : CallF) (d : Option Nat) (os : List IOper) (e : Env) (h : Heap) (n : Nat) (zero : List AV) (ps : List (Nat × Nat × IOpd)) : evOps G F (⟨d, .bslice n 5 zero ps, none⟩ :: os) e h =
    kBs G F (fillA (repA n zero) (ps.map fun (o, n, x) => (o, n, opd e x))) (.own h.b.length 0 n 5) d os e h := st_bslice G F d os e h n 5 zero ps
theorem so_loop (e : Env) (h : Heap) : evL G T c_soft_open_l1 e h = kS G T (evL G T c_soft_open_b1 (keepE [0, 10, 31, 32, 33] e) h) c_soft_open_l1 := s_loopc G T rfl e h
theorem iw20 (x y : AV) (k : IntKind) : iaddrV 1 (.imm 2 [x, y]) (.int k 0) = some (.iptr [x, y] 0) := rfl
theorem iw21 (x y : AV) (k : IntKind) : iaddrV 1 (.imm 2 [x, y]) (.int k 1) = some (.iptr [x, y] 1) := rfl
theorem rp_0 (h : Mem) (x : AV) (l : List AV) : rdAt G h 1 (.iptr (x :: l) 0) = some [x] := by simp [rdAt]
theorem rp_1 (h : Mem) (x y : AV) (l : List AV) : rdAt G h 1 (.iptr (x :: y :: l) 1) = some [y] := by simp [rdAt]
theorem rp_2 (h : Mem) (x y z : AV) (l : List AV) : rdAt G h 1 (.iptr (x :: y :: z :: l) 2) = some [z] := by simp [rdAt]
theorem repA_3 (z : List AV) : repA 3 z = z ++ (z ++ z) := by simp [repA]
theorem wr_1 : IntKind.i64.wrap (0 + 1) = 1 := rfl
theorem wr_2 : IntKind.i64.wrap (1 + 1) = 2 := rfl
theorem wr_3 : IntKind.i64.wrap (2 + 1) = 3 := rfl
theorem wr1 : IntKind.i64.wrap 1 = 1 := rfl
theorem wr2 : IntKind.i64.wrap 2 = 2 := rfl
theorem wr3 : IntKind.i64.wrap 3 = 3 := rfl
def ptC (F : Fm) (w : Nat) (z : Bool) : List AV := [.int .u8 (F.cls w), .bool (F.ng w), .bool (F.vl w).n, D z (dl (F.vl w).m), .int .i64 (F.vl w).e]
set_option maxHeartbeats 8000000 in
theorem soft_open2 (J : Al G T g) (F : Fm) {md : Int} (hm : 1 ≤ md ∧ md ≤ 5) {a : Nat} {b : Nat} (ha : a < 2 * F.sg) (hb : b < 2 * F.sg) :
    ∃ z1 z2, run G T 176 [.int .u8 F.u, .int .u8 md, .imm 2 [.int .u64 (a : Int), .int .u64 (b : Int)]] = some (.tup [.imm 2 (ptC F a z1 ++ ptC F b z2), .int .i64 0]) := by
  have o1 := round_Over J F hm (neg := false)
  have s1 := word_Split J F ha
  have c1 := word_Class J F ha
  obtain ⟨z1, k1, v1⟩ := word_Value J F ha
  have s2 := word_Split J F hb
  have c2 := word_Class J F hb
  obtain ⟨z2, k2, v2⟩ := word_Value J F hb
  refine ⟨z1, z2, ?_⟩
  rw [run_k G T J.U.soft_open]
  unfold ptC
  generalize F.cls a = ca' at *
  generalize F.ng a = na' at *
  generalize F.ex a = xa' at *
  generalize F.fc a = ya' at *
  generalize F.vl a = va' at *
  generalize F.cls b = cb' at *
  generalize F.ng b = nb' at *
  generalize F.ex b = xb' at *
  generalize F.fc b = yb' at *
  generalize F.vl b = vb' at *
  simp only [fldA, DyA, A3, List.cons_append, List.nil_append] at *
  repeat' (first | (simp (maxSteps := 9^7) only [seval, exC, c_soft_open, st_bs5, o1, s1, c1, v1, s2, c2, v2, so_loop, c_soft_open_b1, iw20, iw21, rp_0, rp_1, ap_0, ap_1, wr_1, wr1, wr_2, wr2, repA_2, ap_x, List.set_cons_zero, List.set_cons_succ, List.cons_append, List.nil_append ]) | (simp (maxSteps := 9^7) (disch := first | with_reducible assumption | omega) only [dxB,  kM_int]) | (simp only [kdB]; split) | (simp only [kvB]; split))
end Go.Cv
namespace Go.Cv
variable {G : Nat → Option (List AV)} {T : Tbl} {g : Nat}
theorem hs_loop (e : Env) (h : Heap) : evL G T c_soft_has_l1 e h = kS G T (evL G T c_soft_has_b1 (keepE [0, 7, 8, 9] e) h) c_soft_has_l1 := s_loopc G T rfl e h
section
variable (a1 a2 a3 a4 a5 b1 b2 b3 b4 b5 c1 c2 c3 c4 c5 : AV) (k : IntKind)
theorem i5_20 : iaddrV 5 (.imm 2 [a1, a2, a3, a4, a5, b1, b2, b3, b4, b5]) (.int k 0) = some (.iptr [a1, a2, a3, a4, a5, b1, b2, b3, b4, b5] 0) := rfl
theorem i5_21 : iaddrV 5 (.imm 2 [a1, a2, a3, a4, a5, b1, b2, b3, b4, b5]) (.int k 1) = some (.iptr [a1, a2, a3, a4, a5, b1, b2, b3, b4, b5] 5) := rfl
theorem r5_0 (h : Mem) (l : List AV) : rdAt G h 5 (.iptr (a1 :: a2 :: a3 :: a4 :: a5 :: l) 0) = some [a1, a2, a3, a4, a5] := by simp [rdAt]
theorem r5_5 (h : Mem) (l : List AV) : rdAt G h 5 (.iptr (a1 :: a2 :: a3 :: a4 :: a5 :: b1 :: b2 :: b3 :: b4 :: b5 :: l) 5) = some [b1, b2, b3, b4, b5] := by simp [rdAt]
end
theorem soft_has2 (J : Al G T g) {k c c' : Int} {n s n' s' z z' : Bool} {l l' : List Nat} {e e' : Int} :
    run G T 178 [.int .u8 k, .imm 2 [.int .u8 c, .bool n, .bool s, D z l, .int .i64 e, .int .u8 c', .bool n', .bool s', D z' l', .int .i64 e']] = some (.bool (decide (c = k ∨ c' = k))) := by
  rw [run_k G T J.U.soft_has]
  by_cases h1 : c = k
  · rw [decide_eq_true (Or.inl h1)]
    repeat' (first | (simp (maxSteps := 9^7) only [seval, exC, c_soft_has, hs_loop, c_soft_has_b1, i5_20, i5_21, r5_0, r5_5, wr_1, wr1, wr_2, wr2, h1]) | (simp (maxSteps := 9^7) (disch := first | with_reducible assumption | omega) only [dxB]) | (simp only [kdB]; split) | (simp only [kvB]; split))
  · by_cases h2 : c' = k
    · rw [decide_eq_true (Or.inr h2)]
      repeat' (first | (simp (maxSteps := 9^7) only [seval, exC, c_soft_has, hs_loop, c_soft_has_b1, i5_20, i5_21, r5_0, r5_5, wr_1, wr1, wr_2, wr2, h1, h2]) | (simp (maxSteps := 9^7) (disch := first | with_reducible assumption | omega) only [dxB]) | (simp only [kdB]; split) | (simp only [kvB]; split))
    · rw [decide_eq_false (by omega)]
      repeat' (first | (simp (maxSteps := 9^7) only [seval, exC, c_soft_has, hs_loop, c_soft_has_b1, i5_20, i5_21, r5_0, r5_5, wr_1, wr1, wr_2, wr2, h1, h2]) | (simp (maxSteps := 9^7) (disch := first | with_reducible assumption | omega) only [dxB]) | (simp only [kdB]; split) | (simp only [kvB]; split))
def deskA (F : Fm) (md : Int) : AV := .agg [.int .u8 F.u, .int .u8 md]
def ptA (c : Int) (n z : Bool) (d : Dy) : AV := .agg [.int .u8 c, .bool n, .bool d.n, D z (dl d.m), .int .i64 d.e]
theorem desk_none (J : Al G T g) (F : Fm) {md x : Int} : run G T 179 [deskA F md, .int .u8 x] = some (.tup [.int .u64 (F.nan : Int), .int .u8 x, .int .i64 0]) := by
  rw [run_k G T J.U.soft_desk_none]
  have h1 := word_None J F
  simp only [deskA] at *
  repeat' (first | (simp (maxSteps := 9^7) only [seval, exC, c_soft_desk_none, h1]) | (simp (maxSteps := 9^7) (disch := first | with_reducible assumption | omega) only [dxB]) | (simp only [kdB]; split) | (simp only [kvB]; split))
theorem desk_inf (J : Al G T g) (F : Fm) {md x : Int} {n : Bool} : run G T 180 [deskA F md, .bool n, .int .u8 x] = some (.tup [.int .u64 ((F.inf n : Nat) : Int), .int .u8 x, .int .i64 0]) := by
  rw [run_k G T J.U.soft_desk_inf]
  have h1 := word_Inf J F (n := n)
  simp only [deskA] at *
  cases n <;> repeat' (first | (simp (maxSteps := 9^7) only [seval, exC, c_soft_desk_inf, h1]) | (simp (maxSteps := 9^7) (disch := first | with_reducible assumption | omega) only [dxB]) | (simp only [kdB]; split) | (simp only [kvB]; split))
theorem desk_zero (J : Al G T g) (F : Fm) {md : Int} {n : Bool} : run G T 181 [deskA F md, .bool n] = some (.tup [.int .u64 ((F.sgn n : Nat) : Int), .int .u8 0, .int .i64 0]) := by
  rw [run_k G T J.U.soft_desk_zero]
  have h1 := word_Zero J F (n := n)
  simp only [deskA] at *
  cases n <;> repeat' (first | (simp (maxSteps := 9^7) only [seval, exC, c_soft_desk_zero, h1]) | (simp (maxSteps := 9^7) (disch := first | with_reducible assumption | omega) only [dxB]) | (simp only [kdB]; split) | (simp only [kvB]; split))
theorem desk_sum (J : Al G T g) (F : Fm) {md : Int} (hm : 1 ≤ md ∧ md ≤ 5) {z : Bool} {d : Dy} (hz : Nz d) (hb : Bd d 131072) :
    run G T 183 [deskA F md, DyA z d] = some (.tup [.int .u64 ((sumW F md d).1 : Int), .int .u8 ((sumW F md d).2 : Int), .int .i64 0]) := by
  rw [run_k G T J.U.soft_desk_sum]
  have hmd := mayD_nzb hz hb
  have s1 := dyad_Sign J (n := d.n) (z := z) (Dg_dl d.m) (e := d.e)
  rw [sign_may hmd] at s1
  unfold sumW
  by_cases h0 : d.m = 0
  · rw [if_pos h0] at s1 ⊢
    have h1 := desk_zero J F (md := md) (n := decide (md = 5))
    simp only [deskA, DyA, A3] at *
    repeat' (first | (simp (maxSteps := 9^7) only [seval, exC, c_soft_desk_sum, s1, h1]) | (simp (maxSteps := 9^7) (disch := first | with_reducible assumption | omega) only [dxB]) | (simp only [kdB]; split) | (simp only [kvB]; split))
    all_goals try rfl
  · rw [if_neg h0] at s1 ⊢
    have h1 := round_Round J F hm (z := z) (d := d) hmd
    have c1 : ¬ (if d.n = true then (-1 : Int) else 1) = 0 := by split <;> decide
    generalize (if d.n = true then (-1 : Int) else 1) = sg at *
    generalize rndW F md d = S at *
    simp only [deskA, DyA, A3] at *
    repeat' (first | (simp (maxSteps := 9^7) only [seval, exC, c_soft_desk_sum, s1, c1, h1]) | (simp (maxSteps := 9^7) (disch := first | with_reducible assumption | omega) only [dxB]) | (simp only [kdB]; split) | (simp only [kvB]; split))
    all_goals try rfl
set_option maxHeartbeats 8000000 in
theorem desk_add (J : Al G T g) (F : Fm) {md : Int} (hm : 1 ≤ md ∧ md ≤ 5) {c c' : Int} {n n' z z' : Bool} {d d' : Dy}
    (hz : Nz d) (hz' : Nz d') (hb : Bd d 16384) (hb' : Bd d' 16384) :
    run G T 177 [deskA F md, ptA c n z d, ptA c' n' z' d'] = some (.tup [.int .u64 ((addP F md c n d c' n' d').1 : Int), .int .u8 ((addP F md c n d c' n' d').2 : Int), .int .i64 0]) := by
  rw [run_k G T J.U.soft_desk_add]
  have h5 := soft_has2 J (k := 5) (c := c) (c' := c') (n := n) (s := d.n) (n' := n') (s' := d'.n) (z := z) (z' := z') (l := dl d.m) (l' := dl d'.m) (e := d.e) (e' := d'.e)
  have nn := fun x => desk_none J F (md := md) (x := x)
  have inf := fun m => desk_inf J F (md := md) (x := 0) (n := m)
  have ze := fun m => desk_zero J F (md := md) (n := m)
  unfold addP
  by_cases a5 : c = 5 ∨ c' = 5
  · rw [decide_eq_true a5] at h5
    rw [if_pos a5]
    simp only [deskA, ptA] at *
    repeat' (first | (simp (maxSteps := 9^7) only [seval, exC, c_soft_desk_add, st_bs5, h5, nn]) | (simp (maxSteps := 9^7) (disch := first | with_reducible assumption | omega) only [dxB]) | (simp only [kdB]; split) | (simp only [kvB]; split))
    all_goals try rfl
  · rw [decide_eq_false a5] at h5
    rw [if_neg a5]
    by_cases a4 : c = 4
    · by_cases b4 : c' = 4
      · by_cases hn : n = n'
        · rw [if_neg (show ¬ (c = 4 ∧ c' = 4 ∧ n ≠ n') from fun h => h.2.2 hn), if_pos a4]
          have i1 := inf n'
          subst a4 b4 hn
          simp only [deskA, ptA] at *
          cases n <;> (
            repeat' (first | (simp (maxSteps := 9^7) only [seval, exC, c_soft_desk_add, st_bs5, h5, i1]) | (simp (maxSteps := 9^7) (disch := first | with_reducible assumption | omega) only [dxB]) | (simp only [kdB]; split) | (simp only [kvB]; split))
            all_goals try rfl)
        · rw [if_pos (show c = 4 ∧ c' = 4 ∧ n ≠ n' from ⟨a4, b4, hn⟩)]
          subst a4 b4
          simp only [deskA, ptA] at *
          cases n <;> cases n' <;> first | exact absurd rfl hn | (
            repeat' (first | (simp (maxSteps := 9^7) only [seval, exC, c_soft_desk_add, st_bs5, h5, nn]) | (simp (maxSteps := 9^7) (disch := first | with_reducible assumption | omega) only [dxB]) | (simp only [kdB]; split) | (simp only [kvB]; split))
            all_goals try rfl)
      · rw [if_neg (show ¬ (c = 4 ∧ c' = 4 ∧ n ≠ n') by omega), if_pos a4]
        have i1 := inf n
        subst a4
        simp only [deskA, ptA] at *
        cases n <;> (
          repeat' (first | (simp (maxSteps := 9^7) only [seval, exC, c_soft_desk_add, st_bs5, h5, b4, i1]) | (simp (maxSteps := 9^7) (disch := first | with_reducible assumption | omega) only [dxB]) | (simp only [kdB]; split) | (simp only [kvB]; split))
          all_goals try rfl)
    · rw [if_neg (show ¬ (c = 4 ∧ c' = 4 ∧ n ≠ n') by omega), if_neg a4]
      by_cases b4 : c' = 4
      · rw [if_pos b4]
        have i1 := inf n'
        subst b4
        simp only [deskA, ptA] at *
        cases n' <;> (
          repeat' (first | (simp (maxSteps := 9^7) only [seval, exC, c_soft_desk_add, st_bs5, h5, a4, i1]) | (simp (maxSteps := 9^7) (disch := first | with_reducible assumption | omega) only [dxB]) | (simp only [kdB]; split) | (simp only [kvB]; split))
          all_goals try rfl)
      · rw [if_neg b4]
        by_cases h1 : c = 1 ∧ c' = 1 ∧ n = n'
        · rw [if_pos h1]
          have i1 := ze n
          obtain ⟨k1, k2, k3⟩ := h1
          subst k1 k2 k3
          simp only [deskA, ptA] at *
          cases n <;> (
            repeat' (first | (simp (maxSteps := 9^7) only [seval, exC, c_soft_desk_add, st_bs5, h5, i1]) | (simp (maxSteps := 9^7) (disch := first | with_reducible assumption | omega) only [dxB]) | (simp only [kdB]; split) | (simp only [kvB]; split))
            all_goals try rfl)
        · rw [if_neg h1]
          obtain ⟨z3, s1⟩ := dyad_Add J (z := z) (y := z') hb hb' (mayD_nzb hz (hb.mono (by decide))) (mayD_nzb hz' (hb'.mono (by decide)))
          have s2 := desk_sum J F hm (z := z3) (Nz_add hz hz') ((Bd_add hb hb').mono (by decide))
          generalize sumW F md (addD d d') = S at *
          generalize addD d d' = s at *
          have hk : ¬ c = 1 ∨ (c = 1 ∧ ¬ c' = 1) ∨ (c = 1 ∧ c' = 1 ∧ n ≠ n') := by
            by_cases q1 : c = 1
            · by_cases q2 : c' = 1
              · right; right; exact ⟨q1, q2, fun h => h1 ⟨q1, q2, h⟩⟩
              · right; left; exact ⟨q1, q2⟩
            · left; exact q1
          clear h1 hb hb' hz hz' inf ze nn
          simp only [deskA, ptA, DyA, A3] at *
          rcases hk with k1 | ⟨k1, k2⟩ | ⟨k1, k2, k3⟩
          · repeat' (first | (simp (maxSteps := 9^7) only [seval, exC, c_soft_desk_add, st_bs5, h5, a4, b4, k1, s1, s2]) | (simp (maxSteps := 9^7) (disch := first | with_reducible assumption | omega) only [dxB]) | (simp only [kdB]; split) | (simp only [kvB]; split))
            all_goals try rfl
          · subst k1
            repeat' (first | (simp (maxSteps := 9^7) only [seval, exC, c_soft_desk_add, st_bs5, h5, a4, b4, k2, s1, s2]) | (simp (maxSteps := 9^7) (disch := first | with_reducible assumption | omega) only [dxB]) | (simp only [kdB]; split) | (simp only [kvB]; split))
            all_goals try rfl
          · subst k1 k2
            cases n <;> cases n' <;> first | exact absurd rfl k3 | (
              repeat' (first | (simp (maxSteps := 9^7) only [seval, exC, c_soft_desk_add, st_bs5, h5, s1, s2]) | (simp (maxSteps := 9^7) (disch := first | with_reducible assumption | omega) only [dxB]) | (simp only [kdB]; split) | (simp only [kvB]; split))
              all_goals try rfl)
end Go.Cv
namespace Go.Cv
variable {G : Nat → Option (List AV)} {T : Tbl} {g : Nat}
theorem apart_ip (cs : List AV) (o b o' : Nat) : apart (.iptr cs o) (.ptr b o') = true := rfl
theorem soft_Add (J : Al G T g) (F : Fm) {md : Int} (hm : 1 ≤ md ∧ md ≤ 5) {a b : Nat} (ha : a < 2 * F.sg) (hb : b < 2 * F.sg) :
    run G T 164 [.int .u8 F.u, .int .u8 md, .int .u64 (a : Int), .int .u64 (b : Int)] = some (.tup [.int .u64 ((addW F md a b).1 : Int), .int .u8 ((addW F md a b).2 : Int), .int .i64 0]) := by
  rw [run_k G T J.U.soft_Add]
  obtain ⟨z1, z2, o1⟩ := soft_open2 J F hm ha hb
  have s1 := desk_add J F hm (c := F.cls a) (n := F.ng a) (z := z1) (d := F.vl a) (c' := F.cls b) (n' := F.ng b) (z' := z2) (d' := F.vl b) (Nz_vl F a) (Nz_vl F b) ((Bd_vl F a).mono (by decide)) ((Bd_vl F b).mono (by decide))
  unfold addW
  generalize addP F md (F.cls a) (F.ng a) (F.vl a) (F.cls b) (F.ng b) (F.vl b) = S at *
  unfold ptC at o1
  generalize F.cls a = ca at *
  generalize F.ng a = na at *
  generalize F.vl a = va at *
  generalize F.cls b = cb at *
  generalize F.ng b = nb at *
  generalize F.vl b = vb at *
  simp only [deskA, ptA, List.cons_append, List.nil_append] at *
  repeat' (first | (simp (maxSteps := 9^7) only [seval, exC, c_soft_Add, o1, i5_20, i5_21, r5_0, r5_5, s1]) | (simp (maxSteps := 9^7) (disch := first | with_reducible assumption | omega) only [dxB]) | (simp only [kdB]; split) | (simp only [kvB]; split))
  all_goals try rfl
end Go.Cv
namespace Go.Cv
variable {G : Nat → Option (List AV)} {T : Tbl} {g : Nat}
theorem op5_loop (e : Env) (h : Heap) : evL G T c_ref05_Opens_l1 e h = kS G T (evL G T c_ref05_Opens_b1 (keepE [0, 2, 7] e) h) c_ref05_Opens_l1 := s_loopc G T rfl e h
theorem ref05_Opens_no (J : Al G T g) {f md : Int} (h : ¬ (f = 1 ∨ f = 2)) {v : AV} : run G T 162 [.int .u8 f, .int .u8 md, v] = some (.int .i64 4) := by
  rw [run_k G T J.U.ref05_Opens]
  have h1 := ref03_Is J (f := f)
  rw [decide_eq_false h] at h1
  repeat' (first | (simp (maxSteps := 9^7) only [seval, exC, c_ref05_Opens, h1]) | (simp (maxSteps := 9^7) (disch := first | with_reducible assumption | omega) only [dxB]) | (simp only [kdB]; split) | (simp only [kvB]; split))
theorem ref05_Opens_mode (J : Al G T g) (F : Fm) {md : Int} (h : ¬ (1 ≤ md ∧ md ≤ 5)) {v : AV} : run G T 162 [.int .u8 F.u, .int .u8 md, v] = some (.int .i64 5) := by
  rw [run_k G T J.U.ref05_Opens]
  have h1 := ref03_IsF J F
  have h2 := ref04_Is J (m := md)
  rw [decide_eq_false h] at h2
  repeat' (first | (simp (maxSteps := 9^7) only [seval, exC, c_ref05_Opens, h1, h2]) | (simp (maxSteps := 9^7) (disch := first | with_reducible assumption | omega) only [dxB]) | (simp only [kdB]; split) | (simp only [kvB]; split))
theorem ref05_Opens0 (J : Al G T g) (F : Fm) {md : Int} (hm : 1 ≤ md ∧ md ≤ 5) : run G T 162 [.int .u8 F.u, .int .u8 md, .nil] = some (.int .i64 0) := by
  rw [run_k G T J.U.ref05_Opens]
  have h1 := ref03_IsF J F
  have h2 := ref04_Is J (m := md)
  rw [decide_eq_true hm] at h2
  repeat' (first | (simp (maxSteps := 9^7) only [seval, exC, c_ref05_Opens, h1, h2, op5_loop, c_ref05_Opens_b1]) | (simp (maxSteps := 9^7) (disch := first | with_reducible assumption | omega) only [dxB]) | (simp only [kdB]; split) | (simp only [kvB]; split))
section
variable {f md a b c e : Int}
end
end Go.Cv
namespace Go.Cv
variable {G : Nat → Option (List AV)} {T : Tbl} {g : Nat}
def zA (a b : Nat) : AV := .agg [.int .u64 (a : Int), .int .u64 (b : Int)]
def zcl (c c' : Int) : Int := if c = 4 ∨ c' = 4 then 3 else if c = 5 ∨ c' = 5 then 4 else if c = 1 ∧ c' = 1 then 1 else 2
def sqD (F : Fm) (a b : Nat) : Dy := addD (mulD (F.vl a) (F.vl a)) (mulD (F.vl b) (F.vl b))
theorem word_Class_bad (J : Al G T g) (F : Fm) {w : Nat} (hw : w < 18446744073709551616) (hb : ¬ w < 2 * F.sg) : run G T 193 [.int .u8 F.u, .int .u64 (w : Int)] = some (.tup [.int .u8 0, .int .i64 6]) := by
  rw [run_k G T J.U.word_Class]
  have h1 := word_open1 J F hw
  rw [if_neg hb] at h1
  simp only [shA] at *
  repeat' (first | (simp (maxSteps := 9^7) only [seval, exC, c_word_Class, h1]) | (simp (maxSteps := 9^7) (disch := first | with_reducible assumption | omega) only [dxB]) | (simp only [kdB]; split) | (simp only [kvB]; split))
theorem pair_Class (J : Al G T g) (F : Fm) {a b : Nat} (ha : a < 2 * F.sg) (hb : b < 2 * F.sg) : run G T 189 [.int .u8 F.u, zA a b] = some (.tup [.int .u8 (zcl (F.cls a) (F.cls b)), .int .i64 0]) := by
  rw [run_k G T J.U.pair_Class]
  have h1 := word_Class J F ha
  have h2 := word_Class J F hb
  unfold zcl
  generalize F.cls a = c at *
  generalize F.cls b = d at *
  simp only [zA] at *
  by_cases q4 : c = 4 ∨ d = 4
  · rw [if_pos q4]
    by_cases k : c = 4
    · repeat' (first | (simp (maxSteps := 9^7) only [seval, exC, c_pair_Class, h1, h2, k]) | (simp (maxSteps := 9^7) (disch := first | with_reducible assumption | omega) only [dxB]) | (simp only [kdB]; split) | (simp only [kvB]; split))
    · have k2 : d = 4 := by omega
      repeat' (first | (simp (maxSteps := 9^7) only [seval, exC, c_pair_Class, h1, h2, k, k2]) | (simp (maxSteps := 9^7) (disch := first | with_reducible assumption | omega) only [dxB]) | (simp only [kdB]; split) | (simp only [kvB]; split))
  · rw [if_neg q4]
    have k1 : ¬ c = 4 := by omega
    have k2 : ¬ d = 4 := by omega
    by_cases q5 : c = 5 ∨ d = 5
    · rw [if_pos q5]
      by_cases k : c = 5
      · subst k; repeat' (first | (simp (maxSteps := 9^7) only [seval, exC, c_pair_Class, h1, h2, k2]) | (simp (maxSteps := 9^7) (disch := first | with_reducible assumption | omega) only [dxB]) | (simp only [kdB]; split) | (simp only [kvB]; split))
      · have k3 : d = 5 := by omega
        subst k3; repeat' (first | (simp (maxSteps := 9^7) only [seval, exC, c_pair_Class, h1, h2, k, k1]) | (simp (maxSteps := 9^7) (disch := first | with_reducible assumption | omega) only [dxB]) | (simp only [kdB]; split) | (simp only [kvB]; split))
    · rw [if_neg q5]
      have k3 : ¬ c = 5 := by omega
      have k4 : ¬ d = 5 := by omega
      by_cases q1 : c = 1 ∧ d = 1
      · rw [if_pos q1]
        obtain ⟨rfl, rfl⟩ := q1
        repeat' (first | (simp (maxSteps := 9^7) only [seval, exC, c_pair_Class, h1, h2]) | (simp (maxSteps := 9^7) (disch := first | with_reducible assumption | omega) only [dxB]) | (simp only [kdB]; split) | (simp only [kvB]; split))
      · rw [if_neg q1]
        by_cases k5 : c = 1
        · have k6 : ¬ d = 1 := fun h => q1 ⟨k5, h⟩
          subst k5; repeat' (first | (simp (maxSteps := 9^7) only [seval, exC, c_pair_Class, h1, h2, k2, k4, k6]) | (simp (maxSteps := 9^7) (disch := first | with_reducible assumption | omega) only [dxB]) | (simp only [kdB]; split) | (simp only [kvB]; split))
        · repeat' (first | (simp (maxSteps := 9^7) only [seval, exC, c_pair_Class, h1, h2, k1, k2, k3, k4, k5]) | (simp (maxSteps := 9^7) (disch := first | with_reducible assumption | omega) only [dxB]) | (simp only [kdB]; split) | (simp only [kvB]; split))
theorem pair_Class_bad (J : Al G T g) (F : Fm) {a b : Nat} (ha : a < 18446744073709551616) (hb : b < 18446744073709551616) (h : ¬ (a < 2 * F.sg ∧ b < 2 * F.sg)) : run G T 189 [.int .u8 F.u, zA a b] = some (.tup [.int .u8 0, .int .i64 6]) := by
  rw [run_k G T J.U.pair_Class]
  by_cases k1 : a < 2 * F.sg
  · have h1 := word_Class J F k1
    have h2 := word_Class_bad J F hb (fun q => h ⟨k1, q⟩)
    generalize F.cls a = c at *
    simp only [zA] at *
    repeat' (first | (simp (maxSteps := 9^7) only [seval, exC, c_pair_Class, h1, h2]) | (simp (maxSteps := 9^7) (disch := first | with_reducible assumption | omega) only [dxB]) | (simp only [kdB]; split) | (simp only [kvB]; split))
  · have h1 := word_Class_bad J F ha k1
    simp only [zA] at *
    repeat' (first | (simp (maxSteps := 9^7) only [seval, exC, c_pair_Class, h1]) | (simp (maxSteps := 9^7) (disch := first | with_reducible assumption | omega) only [dxB]) | (simp only [kdB]; split) | (simp only [kvB]; split))
theorem Bd_sq (F : Fm) (a b : Nat) : Bd (sqD F a b) 65537 := (Bd_add (Bd_mul (Bd_vl F a) (Bd_vl F a)) (Bd_mul (Bd_vl F b) (Bd_vl F b))).mono (by decide)
theorem Nz_sq (F : Fm) (a b : Nat) : Nz (sqD F a b) := Nz_add (Nz_mul _ _) (Nz_mul _ _)
end Go.Cv
namespace Go.Cv
variable {G : Nat → Option (List AV)} {T : Tbl} {g : Nat}
theorem ref10_Class (J : Al G T g) (F : Fm) {a b : Nat} (ha : a < 2 * F.sg) (hb : b < 2 * F.sg) : run G T 237 [.int .u8 F.u, zA a b] = some (.int .u8 (zcl (F.cls a) (F.cls b))) := by
  rw [run_k G T J.H.ref10_Class]
  have h1 := ref03_Class J F (sg_64 ha)
  have h2 := ref03_Class J F (sg_64 hb)
  unfold zcl
  generalize F.cls a = c at *
  generalize F.cls b = d at *
  simp only [zA] at *
  by_cases q4 : c = 4 ∨ d = 4
  · rw [if_pos q4]
    by_cases k : c = 4
    · repeat' (first | (simp (maxSteps := 9^7) only [seval, exC, c_ref10_Class, h1, h2, k]) | (simp (maxSteps := 9^7) (disch := first | with_reducible assumption | omega) only [dxB]) | (simp only [kdB]; split) | (simp only [kvB]; split))
    · have k2 : d = 4 := by omega
      repeat' (first | (simp (maxSteps := 9^7) only [seval, exC, c_ref10_Class, h1, h2, k, k2]) | (simp (maxSteps := 9^7) (disch := first | with_reducible assumption | omega) only [dxB]) | (simp only [kdB]; split) | (simp only [kvB]; split))
  · rw [if_neg q4]
    have k1 : ¬ c = 4 := by omega
    have k2 : ¬ d = 4 := by omega
    by_cases q5 : c = 5 ∨ d = 5
    · rw [if_pos q5]
      by_cases k : c = 5
      · subst k; repeat' (first | (simp (maxSteps := 9^7) only [seval, exC, c_ref10_Class, h1, h2, k2]) | (simp (maxSteps := 9^7) (disch := first | with_reducible assumption | omega) only [dxB]) | (simp only [kdB]; split) | (simp only [kvB]; split))
      · have k3 : d = 5 := by omega
        subst k3; repeat' (first | (simp (maxSteps := 9^7) only [seval, exC, c_ref10_Class, h1, h2, k, k1]) | (simp (maxSteps := 9^7) (disch := first | with_reducible assumption | omega) only [dxB]) | (simp only [kdB]; split) | (simp only [kvB]; split))
    · rw [if_neg q5]
      have k3 : ¬ c = 5 := by omega
      have k4 : ¬ d = 5 := by omega
      by_cases q1 : c = 1 ∧ d = 1
      · rw [if_pos q1]
        obtain ⟨rfl, rfl⟩ := q1
        repeat' (first | (simp (maxSteps := 9^7) only [seval, exC, c_ref10_Class, h1, h2]) | (simp (maxSteps := 9^7) (disch := first | with_reducible assumption | omega) only [dxB]) | (simp only [kdB]; split) | (simp only [kvB]; split))
      · rw [if_neg q1]
        by_cases k5 : c = 1
        · have k6 : ¬ d = 1 := fun h => q1 ⟨k5, h⟩
          subst k5; repeat' (first | (simp (maxSteps := 9^7) only [seval, exC, c_ref10_Class, h1, h2, k2, k4, k6]) | (simp (maxSteps := 9^7) (disch := first | with_reducible assumption | omega) only [dxB]) | (simp only [kdB]; split) | (simp only [kvB]; split))
        · repeat' (first | (simp (maxSteps := 9^7) only [seval, exC, c_ref10_Class, h1, h2, k1, k2, k3, k4, k5]) | (simp (maxSteps := 9^7) (disch := first | with_reducible assumption | omega) only [dxB]) | (simp only [kdB]; split) | (simp only [kvB]; split))
theorem gd_loop (e : Env) (h : Heap) : evL G T c_ref10_Good_l1 e h = kS G T (evL G T c_ref10_Good_b1 (keepE [0, 1, 5] e) h) c_ref10_Good_l1 := s_loopc G T rfl e h
section
variable (x y u v : AV) (k : IntKind)
theorem i2_20 : iaddrV 2 (.imm 2 [x, y, u, v]) (.int k 0) = some (.iptr [x, y, u, v] 0) := rfl
theorem i2_21 : iaddrV 2 (.imm 2 [x, y, u, v]) (.int k 1) = some (.iptr [x, y, u, v] 2) := rfl
theorem fa_i (off o : Nat) (cs : List AV) : faddrA off (.iptr cs o) = some (.iptr cs (o + off)) := rfl
theorem rp_3 (h : Mem) (l : List AV) : rdAt G h 1 (.iptr (x :: y :: u :: v :: l) 3) = some [v] := by simp [rdAt]
end
theorem st_bs2 (F : CallF) (d : Option Nat) (os : List IOper) (e : Env) (h : Heap) (n : Nat) (zero : List AV) (ps : List (Nat × Nat × IOpd)) : evOps G F (⟨d, .bslice n 2 zero ps, none⟩ :: os) e h =
    kBs G F (fillA (repA n zero) (ps.map fun (o, n, x) => (o, n, opd e x))) (.own h.b.length 0 n 2) d os e h := st_bslice G F d os e h n 2 zero ps
theorem ref10_Good2 (J : Al G T g) (F : Fm) {a b c d : Nat} (ha : a < 18446744073709551616) (hb : b < 18446744073709551616) (hc : c < 18446744073709551616) (hd : d < 18446744073709551616) :
    run G T 185 [.int .u8 F.u, .imm 2 [.int .u64 (a : Int), .int .u64 (b : Int), .int .u64 (c : Int), .int .u64 (d : Int)]] = some (.int .i64 (if (a < 2 * F.sg ∧ b < 2 * F.sg) ∧ (c < 2 * F.sg ∧ d < 2 * F.sg) then 0 else 6)) := by
  rw [run_k G T J.U.ref10_Good]
  have h1 := ref03_IsF J F
  have h3 := ref03_Good J F ha
  have h4 := ref03_Good J F hb
  have h5 := ref03_Good J F hc
  have h6 := ref03_Good J F hd
  by_cases k1 : a < 2 * F.sg
  · rw [if_pos k1] at h3
    by_cases k2 : b < 2 * F.sg
    · rw [if_pos k2] at h4
      by_cases k3 : c < 2 * F.sg
      · rw [if_pos k3] at h5
        by_cases k4 : d < 2 * F.sg
        · rw [if_pos k4] at h6
          rw [if_pos ⟨⟨k1, k2⟩, k3, k4⟩]
          repeat' (first | (simp (maxSteps := 9^7) only [seval, exC, c_ref10_Good, h1, gd_loop, c_ref10_Good_b1, i2_20, i2_21, fa_i, rp_0, rp_1, rp_2, rp_3, wr_1, wr1, wr_2, wr2, h3, h4, h5, h6]) | (simp (maxSteps := 9^7) (disch := first | with_reducible assumption | omega) only [dxB]) | (simp only [kdB]; split) | (simp only [kvB]; split))
        · rw [if_neg k4] at h6
          rw [if_neg (fun h => k4 h.2.2)]
          repeat' (first | (simp (maxSteps := 9^7) only [seval, exC, c_ref10_Good, h1, gd_loop, c_ref10_Good_b1, i2_20, i2_21, fa_i, rp_0, rp_1, rp_2, rp_3, wr_1, wr1, wr_2, wr2, h3, h4, h5, h6]) | (simp (maxSteps := 9^7) (disch := first | with_reducible assumption | omega) only [dxB]) | (simp only [kdB]; split) | (simp only [kvB]; split))
      · rw [if_neg k3] at h5
        rw [if_neg (fun h => k3 h.2.1)]
        repeat' (first | (simp (maxSteps := 9^7) only [seval, exC, c_ref10_Good, h1, gd_loop, c_ref10_Good_b1, i2_20, i2_21, fa_i, rp_0, rp_1, rp_2, rp_3, wr_1, wr1, wr_2, wr2, h3, h4, h5]) | (simp (maxSteps := 9^7) (disch := first | with_reducible assumption | omega) only [dxB]) | (simp only [kdB]; split) | (simp only [kvB]; split))
    · rw [if_neg k2] at h4
      rw [if_neg (fun h => k2 h.1.2)]
      repeat' (first | (simp (maxSteps := 9^7) only [seval, exC, c_ref10_Good, h1, gd_loop, c_ref10_Good_b1, i2_20, i2_21, fa_i, rp_0, rp_1, rp_2, rp_3, wr_1, wr1, wr_2, wr2, h3, h4]) | (simp (maxSteps := 9^7) (disch := first | with_reducible assumption | omega) only [dxB]) | (simp only [kdB]; split) | (simp only [kvB]; split))
  · rw [if_neg k1] at h3
    rw [if_neg (fun h => k1 h.1.1)]
    repeat' (first | (simp (maxSteps := 9^7) only [seval, exC, c_ref10_Good, h1, gd_loop, c_ref10_Good_b1, i2_20, i2_21, fa_i, rp_0, rp_1, rp_2, rp_3, wr_1, wr1, wr_2, wr2, h3]) | (simp (maxSteps := 9^7) (disch := first | with_reducible assumption | omega) only [dxB]) | (simp only [kdB]; split) | (simp only [kvB]; split))
end Go.Cv
namespace Go.Cv
variable {G : Nat → Option (List AV)} {T : Tbl} {g : Nat}
def Fm.can (F : Fm) (w : Nat) : Nat := if F.cls w = 5 then F.nan else w
def Fm.min (F : Fm) (w : Nat) : Nat := if F.cls w = 5 then F.nan else F.flip w
theorem nan_facts (F : Fm) : F.nan < 2 * F.sg ∧ F.cls F.nan = 5 ∧ F.vl F.nan = ⟨false, 0, 0⟩ := by
  have h1 : F.cls F.nan = 5 := by cases F <;> decide
  refine ⟨by cases F <;> decide, h1, if_neg ?_⟩
  rw [fin_iff, h1]; decide
def Sim (F : Fm) (a b : Nat) : Prop := F.cls a = F.cls b ∧ mulD (F.vl a) (F.vl a) = mulD (F.vl b) (F.vl b)
theorem Sim.refl (F : Fm) (a : Nat) : Sim F a a := ⟨rfl, rfl⟩
theorem Sim.trans {F : Fm} {a b c : Nat} (h : Sim F a b) (k : Sim F b c) : Sim F a c := ⟨h.1.trans k.1, h.2.trans k.2⟩
theorem vl_five {F : Fm} {w : Nat} (h : F.cls w = 5) : F.vl w = ⟨false, 0, 0⟩ := if_neg (by rw [fin_iff, h]; decide)
theorem can_sim {F : Fm} {w : Nat} (hw : w < 2 * F.sg) : F.can w < 2 * F.sg ∧ Sim F (F.can w) w := by
  obtain ⟨n1, n2, n3⟩ := nan_facts F
  unfold Fm.can
  by_cases h : F.cls w = 5
  · rw [if_pos h]; exact ⟨n1, by rw [n2, h], by rw [n3, vl_five h]⟩
  · rw [if_neg h]; exact ⟨hw, Sim.refl F w⟩
theorem neg_mul (d : Dy) : mulD (negD d) (negD d) = mulD d d := by
  unfold negD
  split
  · rfl
  · unfold mulD; simp only; cases d.n <;> rfl
theorem min_sim {F : Fm} {w : Nat} (hw : w < 2 * F.sg) : F.min w < 2 * F.sg ∧ Sim F (F.min w) w := by
  obtain ⟨n1, n2, n3⟩ := nan_facts F
  unfold Fm.min
  by_cases h : F.cls w = 5
  · rw [if_pos h]; exact ⟨n1, by rw [n2, h], by rw [n3, vl_five h]⟩
  · rw [if_neg h]
    obtain ⟨f1, f2, f3, f4⟩ := flip_facts hw
    exact ⟨f1, f3, by rw [f4, neg_mul]⟩
theorem mulD_z0 {a b : Dy} (h : a.m = 0 ∨ b.m = 0) : mulD a b = ⟨false, 0, 0⟩ := by
  unfold mulD
  rcases h with h | h
  · rw [h, Nat.zero_mul]; rfl
  · rw [h, Nat.mul_zero]; rfl
theorem ref03_Canon (J : Al G T g) (F : Fm) {w : Nat} (hw : w < 2 * F.sg) : run G T 173 [.int .u8 F.u, .int .u64 (w : Int)] = some (.int .u64 (F.can w : Int)) := by
  rw [run_k G T J.U.ref03_Canon]
  have h1 := ref03_Class J F (sg_64 hw)
  have h2 := ref03_None J F
  unfold Fm.can
  generalize F.cls w = c at *
  by_cases h : c = 5
  · rw [if_pos h]; subst h; repeat' (first | (simp (maxSteps := 9^7) only [seval, exC, c_ref03_Canon, h1, h2]) | (simp (maxSteps := 9^7) (disch := first | with_reducible assumption | omega) only [dxB]) | (simp only [kdB]; split) | (simp only [kvB]; split))
  · rw [if_neg h]; repeat' (first | (simp (maxSteps := 9^7) only [seval, exC, c_ref03_Canon, h1, h2, h]) | (simp (maxSteps := 9^7) (disch := first | with_reducible assumption | omega) only [dxB]) | (simp only [kdB]; split) | (simp only [kvB]; split))
theorem fd_3 (b : Bool) (x y : AV) : fieldA false 0 1 (.agg [.bool b, x, y]) = some (.bool b) := rfl
theorem ref10_Minus (J : Al G T g) (F : Fm) {w : Nat} (hw : w < 2 * F.sg) : run G T 188 [.int .u8 F.u, .int .u64 (w : Int)] = some (.int .u64 (F.min w : Int)) := by
  rw [run_k G T J.U.ref10_Minus]
  have h1 := ref03_Class J F (sg_64 hw)
  have h2 := ref03_None J F
  have h3 := ref03_Split J F (sg_64 hw)
  have h4 := ref03_Signed J F (n := !F.ng w) (w := w)
  rw [show w % F.sg + F.sgn (!F.ng w) = F.flip w from rfl] at h4
  unfold Fm.min
  generalize F.flip w = fw at *
  generalize F.cls w = c at *
  generalize F.ex w = x at *
  generalize F.fc w = y at *
  generalize F.ng w = n at *
  simp only [fldA] at *
  by_cases h : c = 5
  · rw [if_pos h]; subst h; repeat' (first | (simp (maxSteps := 9^7) only [seval, exC, c_ref10_Minus, h1, h2]) | (simp (maxSteps := 9^7) (disch := first | with_reducible assumption | omega) only [dxB]) | (simp only [kdB]; split) | (simp only [kvB]; split))
  · rw [if_neg h]
    cases n <;> (
      simp only [Bool.not_true, Bool.not_false] at h4
      repeat' (first | (simp (maxSteps := 9^7) only [seval, exC, c_ref10_Minus, h1, h, h3, fd_3, h4]) | (simp (maxSteps := 9^7) (disch := first | with_reducible assumption | omega) only [dxB]) | (simp only [kdB]; split) | (simp only [kvB]; split)))
theorem ref10_Canon (J : Al G T g) (F : Fm) {a b : Nat} (ha : a < 2 * F.sg) (hb : b < 2 * F.sg) : run G T 187 [.int .u8 F.u, zA a b] = some (zA (F.can a) (F.can b)) := by
  rw [run_k G T J.U.ref10_Canon]
  have h1 := ref03_Canon J F ha
  have h2 := ref03_Canon J F hb
  simp only [zA] at *
  repeat' (first | (simp (maxSteps := 9^7) only [seval, exC, c_ref10_Canon, h1, h2]) | (simp (maxSteps := 9^7) (disch := first | with_reducible assumption | omega) only [dxB]) | (simp only [kdB]; split) | (simp only [kvB]; split))
theorem ref10_Conj (J : Al G T g) (F : Fm) {a b : Nat} (ha : a < 2 * F.sg) (hb : b < 2 * F.sg) : run G T 172 [.int .u8 F.u, zA a b] = some (zA (F.can a) (F.min b)) := by
  rw [run_k G T J.U.ref10_Conj]
  have h1 := ref03_Canon J F ha
  have h2 := ref10_Minus J F hb
  simp only [zA] at *
  repeat' (first | (simp (maxSteps := 9^7) only [seval, exC, c_ref10_Conj, h1, h2]) | (simp (maxSteps := 9^7) (disch := first | with_reducible assumption | omega) only [dxB]) | (simp only [kdB]; split) | (simp only [kvB]; split))
theorem tn_loop (e : Env) (h : Heap) : evL G T c_ref10_Turn_l1 e h = kS G T (evL G T c_ref10_Turn_b1 (keepE [0, 4, 6, 7] e) h) c_ref10_Turn_l1 := s_loopc G T rfl e h
theorem ref10_Turn (J : Al G T g) (F : Fm) {a b : Nat} (ha : a < 2 * F.sg) (hb : b < 2 * F.sg) (n : Int) :
    ∃ x y, run G T 170 [.int .u8 F.u, zA a b, .int .i64 n] = some (zA x y) ∧ x < 2 * F.sg ∧ y < 2 * F.sg ∧ ((Sim F x a ∧ Sim F y b) ∨ (Sim F x b ∧ Sim F y a)) := by
  obtain ⟨a1, a2⟩ := can_sim ha
  obtain ⟨b1, b2⟩ := can_sim hb
  have c0 := ref10_Canon J F ha hb
  generalize F.can a = x0 at *
  generalize F.can b = y0 at *
  obtain ⟨p1, p2⟩ := min_sim b1
  obtain ⟨q1, q2⟩ := min_sim a1
  obtain ⟨r1, r2⟩ := min_sim p1
  have m1 := ref10_Minus J F b1
  have m2 := ref10_Minus J F a1
  have m3 := ref10_Minus J F p1
  have hr : -4 < n.tmod 4 ∧ n.tmod 4 < 4 := ⟨Int.lt_tmod_of_pos n (by decide), Int.tmod_lt_of_pos n (by decide)⟩
  obtain ⟨r, hre⟩ : ∃ r, n.tmod 4 = r := ⟨_, rfl⟩
  rw [hre] at hr
  have w1 : IntKind.i64.wrap (r + 4) = r + 4 := wrap_i64 (by omega)
  have w2 : ∃ k : Int, (r + 4).tmod 4 = k ∧ (k = 0 ∨ k = 1 ∨ k = 2 ∨ k = 3) := by
    have h1 : (r + 4).tmod 4 = (r + 4) % 4 := by rw [Int.tmod_eq_emod_of_nonneg (by omega)]
    exact ⟨_, rfl, by rw [h1]; omega⟩
  obtain ⟨k, w2, hk⟩ := w2
  have u1 : IntKind.i64.wrap (1 - 1) = 0 := rfl
  have u2 : IntKind.i64.wrap (2 - 1) = 1 := rfl
  have u3 : IntKind.i64.wrap (3 - 1) = 2 := rfl
  have u4 : IntKind.i64.wrap 0 = 0 := rfl
  have u5 : IntKind.i64.wrap 1 = 1 := rfl
  have u6 : IntKind.i64.wrap 2 = 2 := rfl
  rcases hk with rfl | rfl | rfl | rfl
  · refine ⟨x0, y0, ?_, a1, b1, Or.inl ⟨a2, b2⟩⟩
    rw [run_k G T J.U.ref10_Turn]
    simp only [zA] at *
    repeat' (first | (simp (maxSteps := 9^7) only [seval, exC, c_ref10_Turn, c0, hre, w1, w2, tn_loop, c_ref10_Turn_b1, m1, m2, m3, u1, u2, u3, u4, u5, u6]) | (simp (maxSteps := 9^7) (disch := first | with_reducible assumption | omega) only [dxB]) | (simp only [kdB]; split) | (simp only [kvB]; split))
  · refine ⟨F.min y0, x0, ?_, p1, a1, Or.inr ⟨p2.trans b2, a2⟩⟩
    rw [run_k G T J.U.ref10_Turn]
    simp only [zA] at *
    repeat' (first | (simp (maxSteps := 9^7) only [seval, exC, c_ref10_Turn, c0, hre, w1, w2, tn_loop, c_ref10_Turn_b1, m1, m2, m3, u1, u2, u3, u4, u5, u6]) | (simp (maxSteps := 9^7) (disch := first | with_reducible assumption | omega) only [dxB]) | (simp only [kdB]; split) | (simp only [kvB]; split))
  · refine ⟨F.min x0, F.min y0, ?_, q1, p1, Or.inl ⟨q2.trans a2, p2.trans b2⟩⟩
    rw [run_k G T J.U.ref10_Turn]
    simp only [zA] at *
    repeat' (first | (simp (maxSteps := 9^7) only [seval, exC, c_ref10_Turn, c0, hre, w1, w2, tn_loop, c_ref10_Turn_b1, m1, m2, m3, u1, u2, u3, u4, u5, u6]) | (simp (maxSteps := 9^7) (disch := first | with_reducible assumption | omega) only [dxB]) | (simp only [kdB]; split) | (simp only [kvB]; split))
  · refine ⟨F.min (F.min y0), F.min x0, ?_, r1, q1, Or.inr ⟨r2.trans (p2.trans b2), q2.trans a2⟩⟩
    rw [run_k G T J.U.ref10_Turn]
    simp only [zA] at *
    repeat' (first | (simp (maxSteps := 9^7) only [seval, exC, c_ref10_Turn, c0, hre, w1, w2, tn_loop, c_ref10_Turn_b1, m1, m2, m3, u1, u2, u3, u4, u5, u6]) | (simp (maxSteps := 9^7) (disch := first | with_reducible assumption | omega) only [dxB]) | (simp only [kdB]; split) | (simp only [kvB]; split))
theorem val_enc (F : Fm) (n : Bool) {k : Nat} {u : Int} (hk0 : k ≠ 0) (hk1 : k < 2 ^ (F.fr + 1)) (hu : F.low ≤ u) (hku : u = F.low ∨ 2 ^ F.fr ≤ k) (hs : F.enc k u < F.i0) : F.val (F.enc k u + F.sgn n) = mkD n k u := by
  have hi := fm_i0 F
  obtain ⟨e1, e2⟩ := sgn_mod n (by omega : F.enc k u < F.sg)
  have hp := Nat.two_pow_pos F.fr
  rw [Nat.pow_succ] at hk1
  unfold Fm.val Fm.ex Fm.fc
  rw [e1, e2]
  rcases Nat.lt_or_ge k (2 ^ F.fr) with h | h
  · have hul : u = F.low := by
      rcases hku with q | q
      · exact q
      · omega
    have hE : F.enc k u = k := by unfold Fm.enc; rw [hul, Int.sub_self]; simp
    rw [hE, Nat.div_eq_of_lt h, if_pos rfl, Nat.mod_eq_of_lt h, hul]
  · have hE : F.enc k u = (k - 2 ^ F.fr) + 2 ^ F.fr * ((u - F.low).toNat + 1) := by
      unfold Fm.enc; rw [Nat.mul_add, Nat.mul_one, Nat.mul_comm]; omega
    have hlt : k - 2 ^ F.fr < 2 ^ F.fr := by omega
    have hd : F.enc k u / 2 ^ F.fr = (u - F.low).toNat + 1 := by
      rw [hE, Nat.add_mul_div_left _ _ hp, Nat.div_eq_of_lt hlt, Nat.zero_add]
    have hm : F.enc k u % 2 ^ F.fr = k - 2 ^ F.fr := by
      rw [hE, Nat.add_mul_mod_self_left, Nat.mod_eq_of_lt hlt]
    rw [hd, hm, if_neg (by omega), show 2 ^ F.fr + (k - 2 ^ F.fr) = k by omega]
    congr 1
    omega
theorem fit_word (F : Fm) {d : Dy} (h : F.fits d) (ho : d.m % 2 = 1) : ∃ s, s ≠ 0 ∧ s < F.i0 ∧ F.val (s + F.sgn d.n) = d := by
  obtain ⟨h0, h1, h2, h3⟩ := h
  have hF := fm_facts F
  obtain ⟨u, hu⟩ : ∃ u : Int, u = max (d.e + blen d.m - F.fr - 1) F.low := ⟨_, rfl⟩
  have hbp := blen_pos h0
  have hbk := blen_mul h0 (d.e - u).toNat
  have hk0 : d.m * 2 ^ (d.e - u).toNat ≠ 0 := by intro hc; rw [hc, blen_zero] at hbk; omega
  have hk1 : d.m * 2 ^ (d.e - u).toNat < 2 ^ (F.fr + 1) := blen_le.1 (by omega)
  have hku : u = F.low ∨ 2 ^ F.fr ≤ d.m * 2 ^ (d.e - u).toNat := by
    by_cases q : u = F.low
    · exact Or.inl q
    · right; exact lt_blen.1 (by omega)
  have hbig := enc_big F (n := d.m * 2 ^ (d.e - u).toNat) (u := u) (by omega) (by omega) hku
  have hs : F.enc (d.m * 2 ^ (d.e - u).toNat) u < F.i0 := by
    rcases Nat.lt_or_ge (F.enc (d.m * 2 ^ (d.e - u).toNat) u) F.i0 with q | q
    · exact q
    · have := hbig.2 q; omega
  refine ⟨F.enc (d.m * 2 ^ (d.e - u).toNat) u, ?_, hs, ?_⟩
  · unfold Fm.enc; omega
  · rw [val_enc F d.n hk0 hk1 (by omega) hku hs]
    have := mkD_oddp (n := d.n) (e := d.e) ho (d.e - u).toNat
    rw [show d.e - ((d.e - u).toNat : Int) = u by omega] at this
    exact this
theorem fits_val (F : Fm) {w : Nat} (hf : F.fin w) (h0 : (F.val w).m ≠ 0) : F.fits (F.val w) := by
  have hF := fm_facts F
  have hwd : F.low + F.fr + F.most - 1 = F.wide := by cases F <;> decide
  have hy : F.fc w < 2 ^ F.fr := Nat.mod_lt _ (Nat.two_pow_pos _)
  unfold Fm.fin at hf
  unfold Fm.val at h0 ⊢
  by_cases hx : F.ex w = 0
  · rw [if_pos hx] at h0 ⊢
    have hk : F.fc w ≠ 0 := by intro hc; rw [hc] at h0; exact h0 rfl
    have hb := blen_le.2 hy
    exact mkD_fits hk (by rw [Nat.pow_succ]; omega) (Int.le_refl _) (by omega)
  · rw [if_neg hx] at h0 ⊢
    have hk : 2 ^ F.fr + F.fc w ≠ 0 := by have := Nat.two_pow_pos F.fr; omega
    have hb : blen (2 ^ F.fr + F.fc w) ≤ F.fr + 1 := blen_le.2 (by rw [Nat.pow_succ]; omega)
    exact mkD_fits hk (by rw [Nat.pow_succ]; omega) (by omega) (by omega)
theorem sterbenz (F : Fm) {x y : Dy} (fx : x.m ≠ 0 → F.fits x) (fy : y.m ≠ 0 → F.fits y) (hn : x.n = y.n) (h1 : cmpD (absD x) (shD (absD y) 1) ≤ 0) (h2 : cmpD (absD y) (shD (absD x) 1) ≤ 0) (h0 : (subD x y).m ≠ 0) : F.fits (subD x y) := by
  obtain ⟨L, hL⟩ : ∃ L : Int, L = min x.e y.e := ⟨_, rfl⟩
  have lx : LoE x L := Or.inr (by omega)
  have ly : LoE y L := Or.inr (by omega)
  have sh : ∀ (d : Dy) (h : LoE d L), iv (shD (absD d) 1) L = 2 * ((d.m * 2 ^ (d.e - L).toNat : Nat) : Int) ∧ LoE (shD (absD d) 1) L := fun d h => by
    unfold shD absD
    by_cases q : d.m = 0
    · simp only [q, if_true]; exact ⟨by simp [iv], Or.inl rfl⟩
    · simp only [q, if_false]
      have hl := h.resolve_left q
      refine ⟨?_, Or.inr (by simp only; omega)⟩
      unfold iv
      simp only [Bool.false_eq_true, if_false, Int.one_mul]
      rw [show (d.e + 1 - L).toNat = (d.e - L).toNat + 1 by omega, Nat.pow_succ, ← Nat.mul_assoc]; omega
  have la : ∀ (d : Dy) (h : LoE d L), LoE (absD d) L := fun d h => h
  rw [cmp_iv (la x lx) (sh y ly).2, iv_abs, (sh y ly).1] at h1
  rw [cmp_iv (la y ly) (sh x lx).2, iv_abs, (sh x lx).1] at h2
  have hs := iv_add lx (LoE_neg ly)
  rw [iv_neg] at hs
  rw [show addD x (negD y) = subD x y from rfl] at hs
  obtain ⟨hs1, hs2⟩ := hs
  have hle := hs2.resolve_left h0
  unfold iv at hs1
  rw [hn] at hs1
  generalize hD : (subD x y).m * 2 ^ ((subD x y).e - L).toNat = D at *
  generalize hX : x.m * 2 ^ (x.e - L).toNat = X at *
  generalize hY : y.m * 2 ^ (y.e - L).toNat = Y at *
  have g1 : (X : Int) ≤ 2 * Y := by
    unfold sgI at h1; split at h1
    · omega
    · split at h1 <;> omega
  have g2 : (Y : Int) ≤ 2 * X := by
    unfold sgI at h2; split at h2
    · omega
    · split at h2 <;> omega
  have dX : D ≤ X ∧ D ≤ Y := by
    generalize (subD x y).n = p at *
    generalize y.n = q at *
    cases p <;> cases q <;> simp only [Bool.false_eq_true, if_false, if_true] at hs1 <;> omega
  have Dp : 0 < D := by rw [← hD]; exact Nat.mul_pos (Nat.pos_of_ne_zero h0) (Nat.two_pow_pos _)
  have x0 : x.m ≠ 0 := by intro hc; rw [hc, Nat.zero_mul] at hX; omega
  have y0 : y.m ≠ 0 := by intro hc; rw [hc, Nat.zero_mul] at hY; omega
  obtain ⟨_, x1, x2, x3⟩ := fx x0
  obtain ⟨_, y1, y2, y3⟩ := fy y0
  have bD := blen_mul h0 ((subD x y).e - L).toNat
  have bX := blen_mul x0 (x.e - L).toNat
  have bY := blen_mul y0 (y.e - L).toNat
  rw [hD] at bD
  rw [hX] at bX
  rw [hY] at bY
  have m1 := blen_mono dX.1
  have m2 := blen_mono dX.2
  exact ⟨h0, by omega, by omega, by omega⟩
theorem subW_fin (F : Fm) (md : Int) {a b : Nat} (fa : F.fin a) (fb : F.fin b) :
    (F.cls a = 1 ∧ F.cls b = 1 ∧ subW F md a b = (F.sgn (F.ng a), 0)) ∨ subW F md a b = sumW F md (subD (F.vl a) (F.vl b)) := by
  have ra := fin_iff.1 fa
  have rb := fin_iff.1 fb
  unfold subW addP
  rw [if_neg (show ¬ (F.cls a = 5 ∨ F.cls b = 5) by omega), if_neg (show ¬ (F.cls a = 4 ∧ F.cls b = 4 ∧ F.ng a ≠ !F.ng b) from fun h => by have := h.1; omega), if_neg (show ¬ F.cls a = 4 by omega), if_neg (show ¬ F.cls b = 4 by omega)]
  by_cases h : F.cls a = 1 ∧ F.cls b = 1 ∧ F.ng a = !F.ng b
  · left; rw [if_pos h]; exact ⟨h.1, h.2.1, rfl⟩
  · right; rw [if_neg h]; rfl
theorem sum_fit (F : Fm) {md : Int} {d : Dy} (hz : Nz d) (hf : d.m ≠ 0 → F.fits d) : ∃ w : Nat, sumW F md d = (w, 0) ∧ w < 2 * F.sg ∧ F.fin w ∧ F.val w = d := by
  have hi := fm_i0 F
  unfold sumW
  by_cases h0 : d.m = 0
  · rw [if_pos h0]
    refine ⟨F.sgn (decide (md = 5)), rfl, ?_, ?_, ?_⟩
    · unfold Fm.sgn; split <;> omega
    · have := fin_size (F := F) (s := 0) (decide (md = 5)) hi.2.1
      rwa [Nat.zero_add] at this
    · have := val_zero F (decide (md = 5))
      rw [Nat.zero_add] at this
      rw [this, hz.1 h0]
  · rw [if_neg h0]
    obtain ⟨s, s0, s1, s2⟩ := fit_word F (hf h0) (hz.2 h0)
    have hr := (round_val F md d.n s1 s0).1
    rw [s2] at hr
    refine ⟨s + F.sgn d.n, hr, ?_, fin_size d.n s1, s2⟩
    unfold Fm.sgn; split <;> omega
theorem near (F : Fm) {md : Int} {a b : Nat} (ha : a < 2 * F.sg) (hb : b < 2 * F.sg) (fa : F.fin a) (fb : F.fin b) (hn : (F.vl a).n = (F.vl b).n) (h1 : cmpD (absD (F.vl a)) (shD (absD (F.vl b)) 1) ≤ 0) (h2 : cmpD (absD (F.vl b)) (shD (absD (F.vl a)) 1) ≤ 0) :
    ∃ w : Nat, subW F md a b = (w, 0) ∧ w < 2 * F.sg ∧ F.fin w ∧ F.val w = subD (F.vl a) (F.vl b) := by
  have hi := fm_i0 F
  rcases subW_fin F md fa fb with ⟨k1, k2, h⟩ | h
  · rw [h]
    refine ⟨F.sgn (F.ng a), rfl, ?_, ?_, ?_⟩
    · unfold Fm.sgn; split <;> omega
    · have := fin_size (F := F) (s := 0) (F.ng a) hi.2.1
      rwa [Nat.zero_add] at this
    · have := val_zero F (F.ng a)
      rw [Nat.zero_add] at this
      rw [this, vl_val fa, vl_val fb, (cls_zero_w ha k1).2, (cls_zero_w hb k2).2]; rfl
  · rw [h]
    refine sum_fit F (Nz_add (Nz_vl F a) (Nz_neg (Nz_vl F b))) (sterbenz F ?_ ?_ hn h1 h2)
    · intro q; rw [vl_val fa] at q ⊢; exact fits_val F fa q
    · intro q; rw [vl_val fb] at q ⊢; exact fits_val F fb q
def P2 (k : Nat) : Int := ((2 ^ k : Nat) : Int)
theorem P2_pos (k : Nat) : 0 < P2 k := by unfold P2; have := Nat.two_pow_pos k; omega
theorem P2_dvd {i k : Nat} (h : i ≤ k) : P2 i ∣ P2 k := by
  unfold P2; exact Int.natCast_dvd_natCast.2 (Nat.pow_dvd_pow 2 h)
def bl (n : Int) : Nat := blen n.natAbs
theorem bl_le {n : Int} {k : Nat} : bl n ≤ k ↔ (n < P2 k ∧ -n < P2 k) := by
  unfold bl P2; rw [blen_le]; omega
theorem bl_ge {n : Int} (h : n ≠ 0) : P2 (bl n - 1) ≤ n ∨ P2 (bl n - 1) ≤ -n := by
  unfold bl P2; have := pow_blen_le (n := n.natAbs) (by omega); omega
theorem bl_neg (n : Int) : bl (-n) = bl n := by unfold bl; rw [Int.natAbs_neg]
theorem dvd_small {k : Nat} {x : Int} (h : P2 k ∣ x) (h1 : x < P2 k) (h2 : -x < P2 k) : x = 0 := by
  obtain ⟨q, rfl⟩ := h
  have hp := P2_pos k
  rcases Int.lt_trichotomy q 0 with hq | hq | hq
  · have := Int.mul_le_mul_of_nonneg_left (show q ≤ -1 by omega) (Int.le_of_lt hp); omega
  · rw [hq, Int.mul_zero]
  · have := Int.mul_le_mul_of_nonneg_left (show 1 ≤ q by omega) (Int.le_of_lt hp); omega
def Rep (p : Nat) (n : Int) : Prop := P2 (bl n - p) ∣ n
def Rn (p : Nat) (n r : Int) : Prop := Rep p r ∧ P2 (bl n - p) ∣ r ∧ 2 * (r - n) ≤ P2 (bl n - p) ∧ 2 * (n - r) ≤ P2 (bl n - p)
theorem Rep.neg {p : Nat} {n : Int} (h : Rep p n) : Rep p (-n) := by
  unfold Rep at h ⊢; rw [bl_neg]; exact Int.dvd_neg.2 h
theorem Rn.neg {p : Nat} {n r : Int} (h : Rn p n r) : Rn p (-n) (-r) := by
  obtain ⟨h0, h1, h2, h3⟩ := h
  unfold Rn; rw [bl_neg]
  exact ⟨h0.neg, Int.dvd_neg.2 h1, by omega, by omega⟩
theorem Rn.exact {p : Nat} {n r : Int} (h : Rn p n r) {i : Nat} (hi : P2 i ∣ n) (hk : bl n - p ≤ i) : r = n := by
  obtain ⟨_, h1, h2, h3⟩ := h
  have hp := P2_pos (bl n - p)
  have := dvd_small (Int.dvd_sub h1 (Int.dvd_trans (P2_dvd hk) hi)) (by omega) (by omega)
  omega
theorem Rn.near {p : Nat} (hp : 1 ≤ p) {n r c : Int} (h : Rn p n r) (hc : Rep p c) : r - n ≤ (c - n).natAbs ∧ n - r ≤ (c - n).natAbs := by
  have key : ∀ c, P2 (bl n - p) ∣ c → r - n ≤ (c - n).natAbs ∧ n - r ≤ (c - n).natAbs := fun c hc => by
    obtain ⟨_, h1, h2, h3⟩ := h
    by_cases q : r = c
    · subst q; omega
    · have hd := Int.dvd_sub h1 hc
      have hs : ¬ (r - c < P2 (bl n - p) ∧ -(r - c) < P2 (bl n - p)) := fun q1 => q (by have := dvd_small hd q1.1 q1.2; omega)
      omega
  by_cases q : bl n - p ≤ bl c - p
  · exact key c (Int.dvd_trans (P2_dvd q) hc)
  · have hb : bl c ≤ bl n - 1 := by omega
    have hn0 : n ≠ 0 := by rintro rfl; have : bl 0 = 0 := rfl; omega
    have hc1 := bl_le.1 hb
    have hd : P2 (bl n - p) ∣ P2 (bl n - 1) := P2_dvd (by omega)
    have k1 := key _ hd
    have k2 := key _ (Int.dvd_neg.2 hd)
    have hpp := P2_pos (bl n - 1)
    rcases bl_ge hn0 with h4 | h4 <;> omega
def Fm.X (F : Fm) (w : Nat) : Int := iv (F.vl w) F.low
theorem LoE_vl {F : Fm} {w : Nat} (hf : F.fin w) : LoE (F.vl w) F.low := by
  by_cases h : (F.vl w).m = 0
  · exact Or.inl h
  · right; rw [vl_val hf] at h ⊢; exact (fits_val F hf h).2.2.1
theorem sgn_fin (F : Fm) (n : Bool) : F.sgn n < 2 * F.sg ∧ F.fin (F.sgn n) ∧ F.vl (F.sgn n) = ⟨false, 0, 0⟩ := by
  have hi := fm_i0 F
  have h := fin_size (F := F) (s := 0) n hi.2.1
  have h2 := val_zero F n
  rw [Nat.zero_add] at h h2
  exact ⟨by unfold Fm.sgn; split <;> omega, h, by rw [vl_val h, h2]⟩
theorem addP_fin (F : Fm) (md : Int) {c c' : Int} {n n' : Bool} {d d' : Dy} (h1 : c = 1 ∨ c = 2 ∨ c = 3) (h2 : c' = 1 ∨ c' = 2 ∨ c' = 3) :
    addP F md c n d c' n' d' = if c = 1 ∧ c' = 1 ∧ n = n' then (F.sgn n, 0) else sumW F md (addD d d') := by
  unfold addP
  rw [if_neg (by omega), if_neg (by omega), if_neg (by omega), if_neg (by omega)]
theorem cls_val1 {F : Fm} {w : Nat} (hw : w < 2 * F.sg) (hf : F.fin w) : F.cls w = 1 ↔ (F.vl w).m = 0 := by
  rw [vl_val hf]
  constructor
  · intro h; rw [(cls_zero_w hw h).2]
  · intro h
    have h1 := fun q => val_cls hw q hf
    exact Decidable.byContradiction fun q => h1 q h
theorem mulP_fin (F : Fm) (md : Int) {c c' : Int} {n n' : Bool} {d d' : Dy} (h1 : c = 1 ∨ c = 2 ∨ c = 3) (h2 : c' = 1 ∨ c' = 2 ∨ c' = 3) :
    mulP F md c n d c' n' d' = if c = 1 ∨ c' = 1 then (F.sgn (n != n'), 0) else sumW F md (mulD d d') := by
  unfold mulP
  rw [if_neg (by omega), if_neg (by omega), if_neg (by omega)]
theorem mulD_m {a b : Dy} (ha : Nz a) (hb : Nz b) (h1 : a.m ≠ 0) (h2 : b.m ≠ 0) : mulD a b = ⟨a.n != b.n, a.m * b.m, a.e + b.e⟩ := by
  unfold mulD; exact mkD_odd (odd_mul (ha.2 h1) (hb.2 h2))
theorem flip_fin {F : Fm} {w : Nat} (hw : w < 2 * F.sg) (hf : F.fin w) : F.fin (F.flip w) := by
  rw [fin_iff] at hf ⊢; rw [(flip_facts hw).2.2.1]; exact hf
theorem iv_mul {a b : Dy} {K L : Int} (ha : LoE a K) (hb : LoE b L) : iv (mulD a b) (K + L) = iv a K * iv b L ∧ LoE (mulD a b) (K + L) := by
  by_cases h1 : a.m = 0
  · have : mulD a b = ⟨false, 0, 0⟩ := mulD_z0 (Or.inl h1)
    rw [this, iv_zero rfl, iv_zero h1, Int.zero_mul]; exact ⟨rfl, Or.inl rfl⟩
  · by_cases h2 : b.m = 0
    · have : mulD a b = ⟨false, 0, 0⟩ := mulD_z0 (Or.inr h2)
      rw [this, iv_zero rfl, iv_zero h2, Int.mul_zero]; exact ⟨rfl, Or.inl rfl⟩
    · have la := ha.resolve_left h1
      have lb := hb.resolve_left h2
      refine ⟨?_, LoE_mk (by omega)⟩
      unfold mulD
      rw [iv_mk (by omega), show (a.e + b.e - (K + L)).toNat = (a.e - K).toNat + (b.e - L).toNat by omega, Nat.pow_add]
      unfold iv
      have e : a.m * b.m * (2 ^ (a.e - K).toNat * 2 ^ (b.e - L).toNat) = (a.m * 2 ^ (a.e - K).toNat) * (b.m * 2 ^ (b.e - L).toNat) := by
        simp only [Nat.mul_assoc, Nat.mul_left_comm, Nat.mul_comm]
      rw [e, Int.natCast_mul]
      generalize ((a.m * 2 ^ (a.e - K).toNat : Nat) : Int) = x
      generalize ((b.m * 2 ^ (b.e - L).toNat : Nat) : Int) = y
      cases a.n <;> cases b.n <;> simp [Int.neg_mul, Int.mul_neg]
theorem mulD_neg (a b : Dy) : mulD a (negD b) = negD (mulD a b) := by
  by_cases h1 : a.m = 0
  · rw [mulD_z0 (Or.inl h1), mulD_z0 (Or.inl h1)]; rfl
  · by_cases h2 : b.m = 0
    · rw [mulD_z0 (Or.inr h2), mulD_z0 (Or.inr (by unfold negD; rw [if_pos h2]; exact h2))]; rfl
    · have h3 : a.m * b.m ≠ 0 := by have := Nat.mul_pos (Nat.pos_of_ne_zero h1) (Nat.pos_of_ne_zero h2); omega
      have e1 : negD b = ⟨!b.n, b.m, b.e⟩ := by unfold negD; rw [if_neg h2]
      unfold mulD
      rw [e1]
      simp only
      have e2 := mkD_m0 (n := a.n != b.n) h3 (a.e + b.e)
      unfold negD
      rw [if_neg e2, mkD_pos h3, mkD_pos h3]
      cases a.n <;> cases b.n <;> rfl
theorem quo_core (F : Fm) {md : Int} {a b : Dy} (h0 : a.m ≠ 0) (h1 : b.m ≠ 0) (hf : (quoW F md a b).2 = 0 ∨ (quoW F md a b).2 = 16) :
    ∃ (K N kk : Nat) (u : Int), F.fin (quoW F md a b).1 ∧ (quoW F md a b).1 < 2 * F.sg ∧ F.val (quoW F md a b).1 = mkD (a.n != b.n) K u ∧ u + b.e = a.e - N + kk ∧ ((quoW F md a b).2 = 16 → u ≤ (a.e + blen a.m) - (b.e + blen b.m) + 1 - F.fr) ∧
      (a.m * 2 ^ N ≤ K * b.m * 2 ^ kk + b.m * 2 ^ kk) ∧ K * b.m * 2 ^ kk ≤ a.m * 2 ^ N + b.m * 2 ^ kk ∧ ((quoW F md a b).2 = 0 → a.m * 2 ^ N = K * b.m * 2 ^ kk) := by
  have hF := fm_facts F
  have hi := fm_i0 F
  have hqb := quo_blen (k := 64) h0 h1
  unfold quoW at hf ⊢
  obtain ⟨N, hN⟩ : ∃ N, N = quoN 64 a.m b.m := ⟨_, rfl⟩
  rw [← hN] at hf hqb ⊢
  have hdm := Nat.div_add_mod (a.m * 2 ^ N) b.m
  have hml := Nat.mod_lt (a.m * 2 ^ N) (Nat.pos_of_ne_zero h1)
  have hbA : blen (a.m * 2 ^ N) = blen a.m + N := blen_mul h0 N
  obtain ⟨A, hA⟩ : ∃ A, A = a.m * 2 ^ N := ⟨_, rfl⟩
  rw [← hA] at hdm hml hbA hqb hf ⊢
  obtain ⟨Q, hQ⟩ : ∃ Q, Q = A / b.m := ⟨_, rfl⟩
  rw [← hQ] at hdm hqb hf ⊢
  have hQb : blen Q + blen b.m ≤ blen A + 1 := by
    have q0 : Q ≠ 0 := by rintro rfl; rw [blen_zero] at hqb; omega
    have e1 := pow_blen_le q0
    have e2 := pow_blen_le h1
    have e3 := Nat.mul_le_mul e2 e1
    rw [← Nat.pow_add] at e3
    have e4 := lt_pow_blen A
    have e5 : blen b.m - 1 + (blen Q - 1) < blen A := by
      refine (Nat.pow_lt_pow_iff_right (a := 2) (by decide)).1 (Nat.lt_of_le_of_lt e3 (Nat.lt_of_le_of_lt ?_ e4))
      omega
    have := blen_pos h1
    omega
  obtain ⟨E, hE⟩ : ∃ E : Int, E = a.e - b.e - (N : Nat) := ⟨_, rfl⟩
  rw [← hE] at hf ⊢
  unfold sW at hf ⊢
  obtain ⟨u, hu⟩ : ∃ u, u = F.eOf (E + blen Q) := ⟨_, rfl⟩
  have hue : u = max (E + blen Q - F.fr - 1) F.low := hu
  rw [← hu] at hf ⊢
  obtain ⟨kk, hkk⟩ : ∃ kk, kk = (u - E).toNat := ⟨_, rfl⟩
  rw [← hkk] at hf ⊢
  have k0 : 0 < kk := by omega
  -- the count of units
  obtain ⟨lost, hlost⟩ : ∃ l, l = !decide (A % b.m = 0) := ⟨_, rfl⟩
  rw [← hlost] at hf ⊢
  obtain ⟨up, hup⟩ : ∃ up : Bool, (rdN md (a.n != b.n) Q lost kk).1 = Q / 2 ^ kk + up.toNat ∧ ((rdN md (a.n != b.n) Q lost kk).2 = true → up = false ∧ Q % 2 ^ kk = 0 ∧ A % b.m = 0) := by
    refine ⟨_, rfl, fun h => ?_⟩
    simp only [rdN, Bool.and_eq_true, Bool.not_eq_true'] at h
    obtain ⟨q1, _, _⟩ := half_spec Q k0
    rw [h.1, h.2]
    refine ⟨upB_ex _ _ _, ?_, ?_⟩
    · have h2 := h.2
      simp only [moreN, Bool.or_eq_false_iff, decide_eq_false_iff_not, ne_eq, Decidable.not_not] at h2
      rw [q1, h.1, h2.2]; rfl
    · have h2 := h.2
      simp only [moreN, Bool.or_eq_false_iff] at h2
      have h3 := h2.1
      rw [hlost] at h3
      simpa using h3
  have hbd : (rdN md (a.n != b.n) Q lost kk).1 ≤ 2 ^ (F.fr + 1) := by
    rw [hup.1]
    have hb1 : blen (Q / 2 ^ kk) ≤ F.fr + 1 := by rw [blen_div]; omega
    have := blen_le.1 hb1
    cases up <;> simp <;> omega
  have hlo2 : u = F.low ∨ 2 ^ F.fr ≤ (rdN md (a.n != b.n) Q lost kk).1 := by
    by_cases q : u = F.low
    · exact Or.inl q
    · right
      have : 2 ^ F.fr ≤ Q / 2 ^ kk := lt_blen.1 (by rw [blen_div]; omega)
      rw [hup.1]; omega
  have hfine : blen (rdN md (a.n != b.n) Q lost (blen Q - F.fr - 1)).1 ≤ F.fr + 2 := by
    have hb1 : blen (Q / 2 ^ (blen Q - F.fr - 1)) ≤ F.fr + 1 := by rw [blen_div]; omega
    have h2 := blen_le.1 hb1
    have hb : ∀ b : Bool, b.toNat ≤ 1 := fun b => by cases b <;> decide
    rw [blen_le, show F.fr + 2 = (F.fr + 1) + 1 by omega, Nat.pow_succ]
    simp only [rdN]
    have := hb (upB md (a.n != b.n) (decide (Q / 2 ^ (blen Q - F.fr - 1) % 2 = 1)) (halfN Q (blen Q - F.fr - 1)) (moreN Q lost (blen Q - F.fr - 1)))
    have h3 := Nat.two_pow_pos (F.fr + 1)
    omega
  generalize hK : (rdN md (a.n != b.n) Q lost kk).1 = K at *
  generalize (rdN md (a.n != b.n) Q lost (blen Q - F.fr - 1)).1 = fine at *
  generalize (rdN md (a.n != b.n) Q lost kk).2 = ex at *
  unfold wordOf at hf ⊢
  have hbig := enc_big F (n := K) (u := u) hbd (by omega) hlo2
  by_cases ov : F.wide < blen K + u
  · rw [if_pos ov] at hf; simp only at hf; omega
  · rw [if_neg ov] at hf ⊢
    have hs : F.enc K u < F.i0 := by
      rcases Nat.lt_or_ge (F.enc K u) F.i0 with q | q
      · exact q
      · exact absurd (hbig.2 q) ov
    obtain ⟨v1, v2, v3⟩ := iv_val (F := F) (a.n != b.n) hs
    rw [magN_enc F hbd (by omega) hlo2] at v1
    have hval : F.val (F.enc K u + F.sgn (a.n != b.n)) = mkD (a.n != b.n) K u := nz_eq v3 (Nz_mk _ _ _) v2 (LoE_mk (by omega)) (by rw [v1, iv_mk (by omega)])
    -- S
    have hS1 : Q * b.m = Q / 2 ^ kk * b.m * 2 ^ kk + Q % 2 ^ kk * b.m := by
      have e := Nat.div_add_mod Q (2 ^ kk)
      conv => lhs; rw [← e]
      rw [Nat.add_mul]
      congr 1
      rw [Nat.mul_assoc, Nat.mul_comm]
    have hS2 : Q % 2 ^ kk * b.m + A % b.m < b.m * 2 ^ kk := by
      have e := Nat.mod_lt Q (Nat.two_pow_pos kk)
      have := Nat.mul_le_mul_left b.m (show Q % 2 ^ kk + 1 ≤ 2 ^ kk from e)
      rw [Nat.mul_add, Nat.mul_one, Nat.mul_comm b.m (Q % 2 ^ kk)] at this
      omega
    have hdm' : Q * b.m + A % b.m = A := by rw [Nat.mul_comm]; exact hdm
    have hKb : K * b.m * 2 ^ kk = Q / 2 ^ kk * b.m * 2 ^ kk + up.toNat * (b.m * 2 ^ kk) := by rw [hup.1, Nat.add_mul, Nat.add_mul, Nat.mul_assoc up.toNat]
    refine ⟨K, N, kk, u, fin_size _ hs, by unfold Fm.sgn; split <;> omega, hval, by omega, ?_, ?_, ?_, ?_⟩
    · intro hf
      simp only at hf
      have : ¬ ((blen fine : Int) + (E + blen Q - F.fr - 1) < F.low + F.fr + 1) := by
        intro q; rw [if_pos q] at hf; split at hf <;> omega
      omega
    · rw [← hA, hKb]
      generalize Q / 2 ^ kk * b.m * 2 ^ kk = X at *
      generalize b.m * 2 ^ kk = Y at *
      cases up <;> simp <;> omega
    · rw [← hA, hKb]
      generalize Q / 2 ^ kk * b.m * 2 ^ kk = X at *
      generalize b.m * 2 ^ kk = Y at *
      cases up <;> simp <;> omega
    · intro h
      have hx : ex = true := by
        cases ex
        · simp only [Bool.false_eq_true, if_false] at h; split at h <;> simp at h
        · rfl
      obtain ⟨x1, x2, x3⟩ := hup.2 hx
      rw [← hA, hKb, x1, ← hdm', x3, hS1, x2]; simp
theorem units {K kk : Nat} {u E low L : Int} (h1 : u = E + kk) (h2 : L ≤ E) (h3 : low ≤ u) (h4 : L ≤ low) : K * 2 ^ (u - low).toNat * 2 ^ (low - L).toNat = K * 2 ^ kk * 2 ^ (E - L).toNat := by
  rw [Nat.mul_assoc, ← Nat.pow_add, Nat.mul_assoc, ← Nat.pow_add]; congr 2; omega
theorem sq_nn (x : Int) : 0 ≤ x * x := by
  rcases Int.le_total 0 x with h | h
  · exact Int.mul_nonneg h h
  · have := Int.mul_nonneg (Int.neg_nonneg.2 h) (Int.neg_nonneg.2 h)
    rwa [Int.neg_mul_neg] at this
theorem upB_ovs {F : Fm} {md : Int} {neg o h m : Bool} (hm : 1 ≤ md ∧ md ≤ 5) (hu : upB md neg o h m = true) : ovs F md neg = F.i0 := by
  unfold ovs
  rw [if_neg]
  rintro (r | ⟨r, n⟩ | ⟨r, n⟩) <;> subst r <;> simp [upB] at hu
  · rw [n] at hu; simp at hu
  · rw [n] at hu; simp at hu
theorem sW_size (F : Fm) (neg : Bool) {Q : Nat} (more : Bool) (E : Int) (hQ : F.fr + 2 ≤ blen Q) : ∃ (s0 : Nat) (o h m : Bool), ∀ md, 1 ≤ md ∧ md ≤ 5 →
    (sW F md neg Q more E).1 = (if s0 < F.i0 then s0 + (upB md neg o h m).toNat else ovs F md neg) + F.sgn neg := by
  obtain ⟨u, hu⟩ : ∃ u, u = F.eOf (E + blen Q) := ⟨_, rfl⟩
  have hue : u = max (E + blen Q - F.fr - 1) F.low := hu
  obtain ⟨k, hk⟩ : ∃ k, k = (u - E).toNat := ⟨_, rfl⟩
  have k0 : 0 < k := by omega
  have hb1 : blen (Q / 2 ^ k) ≤ F.fr + 1 := by rw [blen_div]; omega
  have hb2 := blen_le.1 hb1
  refine ⟨F.enc (Q / 2 ^ k) u, decide (Q / 2 ^ k % 2 = 1), halfN Q k, moreN Q more k, fun md hm => ?_⟩
  unfold sW
  rw [← hu, ← hk]
  have hn : (rdN md neg Q more k).1 = Q / 2 ^ k + (upB md neg (decide (Q / 2 ^ k % 2 = 1)) (halfN Q k) (moreN Q more k)).toNat := rfl
  generalize (rdN md neg Q more (blen Q - F.fr - 1)).1 = fine
  generalize (rdN md neg Q more k).2 = ex
  rw [hn]
  obtain ⟨n0, hn0⟩ : ∃ n0, n0 = Q / 2 ^ k := ⟨_, rfl⟩
  rw [← hn0] at hb1 hb2 ⊢
  have hlo : u = F.low ∨ 2 ^ F.fr ≤ n0 := by
    by_cases q : u = F.low
    · exact Or.inl q
    · right; rw [hn0]; exact lt_blen.1 (by rw [blen_div]; omega)
  generalize hU : upB md neg (decide (n0 % 2 = 1)) (halfN Q k) (moreN Q more k) = U
  have hUn : U.toNat ≤ 1 := by cases U <;> decide
  have hb := enc_big F (n := n0 + U.toNat) (u := u) (by omega) (by omega) (by omega)
  have he : F.enc (n0 + U.toNat) u = F.enc n0 u + U.toNat := by cases U <;> rfl
  rw [he] at hb
  unfold wordOf
  by_cases hs : F.enc n0 u < F.i0
  · rw [if_pos hs]
    by_cases hw : F.wide < blen (n0 + U.toNat) + u
    · rw [if_pos hw, ovr_eq]
      have h1 := hb.1 hw
      have hUt : U = true := by cases U with | true => rfl | false => exfalso; simp at h1; omega
      subst hUt
      rw [upB_ovs hm hU]
      simp at h1 ⊢
      omega
    · rw [if_neg hw, he]
  · rw [if_neg hs, if_pos (hb.2 (by omega)), ovr_eq]
def plz (F : Fm) (neg : Bool) (s : Nat) : Int := if neg then -(s : Int) else s
theorem sz_between (F : Fm) {md : Int} (hm : 1 ≤ md ∧ md ≤ 5) (neg o h m : Bool) (s0 : Nat) :
    let z := fun md => (if s0 < F.i0 then s0 + (upB md neg o h m).toNat else ovs F md neg)
    plz F neg (z 5) ≤ plz F neg (z md) ∧ plz F neg (z md) ≤ plz F neg (z 4) ∧ plz F neg (z 4) ≤ plz F neg (z 5) + 1 ∧ z md ≤ F.i0 := by
  have hi := fm_i0 F
  have hmd : md = 1 ∨ md = 2 ∨ md = 3 ∨ md = 4 ∨ md = 5 := by omega
  simp only
  by_cases hs : s0 < F.i0
  · simp only [if_pos hs]
    rcases hmd with r | r | r | r | r <;> subst r <;> cases neg <;> cases o <;> cases h <;> cases m <;> simp [upB, plz] <;> omega
  · simp only [if_neg hs]
    rcases hmd with r | r | r | r | r <;> subst r <;> cases neg <;> simp [ovs, plz] <;> omega
theorem quo_size (F : Fm) {a b : Dy} (h0 : a.m ≠ 0) (h1 : b.m ≠ 0) : ∃ (s0 : Nat) (o h m : Bool), ∀ md, 1 ≤ md ∧ md ≤ 5 →
    (quoW F md a b).1 = (if s0 < F.i0 then s0 + (upB md (a.n != b.n) o h m).toNat else ovs F md (a.n != b.n)) + F.sgn (a.n != b.n) := by
  have hF := fm_facts F
  have hqb := quo_blen (k := 64) h0 h1
  exact sW_size F (a.n != b.n) _ _ (by omega)
theorem pl_size (F : Fm) (neg : Bool) {s : Nat} (h : s ≤ F.i0) : (if F.ng (s + F.sgn neg) then -(((s + F.sgn neg) % F.sg : Nat) : Int) else (((s + F.sgn neg) % F.sg : Nat) : Int)) = plz F neg s ∧ s + F.sgn neg < 2 * F.sg ∧ F.cls (s + F.sgn neg) ≠ 5 := by
  have hi := fm_i0 F
  obtain ⟨q1, q2⟩ := sgn_mod (F := F) (s := s) neg (by omega)
  refine ⟨?_, ?_, (cls_size neg h).2.2⟩
  · rw [q1, q2]; unfold plz; cases neg <;> rfl
  · unfold Fm.sgn; split <;> omega
theorem wr_4 : IntKind.i64.wrap (3 + 1) = 4 := rfl
theorem wr_5 : IntKind.i64.wrap (4 + 1) = 5 := rfl
theorem wr_6 : IntKind.i64.wrap (5 + 1) = 6 := rfl
theorem wr4 : IntKind.i64.wrap 4 = 4 := rfl
theorem wr5 : IntKind.i64.wrap 5 = 5 := rfl
theorem wr6 : IntKind.i64.wrap 6 = 6 := rfl
theorem iv_sq (F : Fm) {a b : Nat} {L : Int} (la : LoE (F.vl a) L) (lb : LoE (F.vl b) L) : iv (sqD F a b) (2 * L) = iv (F.vl a) L * iv (F.vl a) L + iv (F.vl b) L * iv (F.vl b) L := by
  obtain ⟨p1, p2⟩ := iv_mul la la
  obtain ⟨q1, q2⟩ := iv_mul lb lb
  unfold sqD
  rw [show 2 * L = L + L by omega, (iv_add p2 q2).1, p1, q1]
theorem ref10_Finite (J : Al G T g) (F : Fm) {a b : Nat} (ha : a < 2 * F.sg) (hb : b < 2 * F.sg) : run G T 250 [.int .u8 F.u, zA a b] = some (.bool (decide (F.fin a ∧ F.fin b))) := by
  rw [run_k G T J.J.ref10_Finite]
  have f1 := ref03_Finite J F (sg_64 ha)
  have f2 := ref03_Finite J F (sg_64 hb)
  simp only [zA]
  by_cases p : F.fin a
  · rw [decide_eq_true p] at f1
    by_cases q : F.fin b
    · rw [decide_eq_true q] at f2
      rw [decide_eq_true (show F.fin a ∧ F.fin b from ⟨p, q⟩)]
      repeat' (first | (simp (maxSteps := 9^7) only [seval, exC, c_ref10_Finite, f1, f2]) | (simp (maxSteps := 9^7) (disch := first | with_reducible assumption | omega) only [dxB]) | (simp only [kdB]; split) | (simp only [kvB]; split))
    · rw [decide_eq_false q] at f2
      rw [decide_eq_false (show ¬ (F.fin a ∧ F.fin b) from fun h => q h.2)]
      repeat' (first | (simp (maxSteps := 9^7) only [seval, exC, c_ref10_Finite, f1, f2]) | (simp (maxSteps := 9^7) (disch := first | with_reducible assumption | omega) only [dxB]) | (simp only [kdB]; split) | (simp only [kvB]; split))
  · rw [decide_eq_false p] at f1
    rw [decide_eq_false (show ¬ (F.fin a ∧ F.fin b) from fun h => p h.1)]
    repeat' (first | (simp (maxSteps := 9^7) only [seval, exC, c_ref10_Finite, f1]) | (simp (maxSteps := 9^7) (disch := first | with_reducible assumption | omega) only [dxB]) | (simp only [kdB]; split) | (simp only [kvB]; split))
def zrA (p q : Nat × Nat) : AV := .agg [.int .u64 (p.1 : Int), .int .u64 (q.1 : Int), .int .u8 (p.2 : Int), .int .u8 (q.2 : Int)]
theorem ref12_Add (J : Al G T g) (F : Fm) {md : Int} (hm : 1 ≤ md ∧ md ≤ 5) {a b c d : Nat} (ha : a < 2 * F.sg) (hb : b < 2 * F.sg) (hc : c < 2 * F.sg) (hd : d < 2 * F.sg) :
    run G T 251 [.int .u8 F.u, .int .u8 md, zA a b, zA c d] = some (zrA (addW F md a c) (addW F md b d)) := by
  rw [run_k G T J.J.ref12_Add]
  have r1 := ref05_Add J F hm ha hc
  have r2 := ref05_Add J F hm hb hd
  generalize addW F md a c = S1 at *
  generalize addW F md b d = S2 at *
  simp only [zA, zrA]
  repeat' (first | (simp (maxSteps := 9^7) only [seval, exC, c_ref12_Add, r1, r2]) | (simp (maxSteps := 9^7) (disch := first | with_reducible assumption | omega) only [dxB]) | (simp only [kdB]; split) | (simp only [kvB]; split))
def numA (z : Bool) (x : Dy × Bool) : AV := .agg [.bool x.1.n, D z (dl x.1.m), .int .i64 x.1.e, .bool x.2]
def tm (F : Fm) (a b : Nat) (minus : Bool) : Dy × Bool := (if minus then negD (mulD (F.vl a) (F.vl b)) else mulD (F.vl a) (F.vl b), (F.ng a != F.ng b) != minus)
def zsg (md : Int) (x y : Dy × Bool) : Bool := if x.1.m = 0 ∧ y.1.m = 0 ∧ x.2 = y.2 then x.2 else decide (md = 5)
def ptQ (F : Fm) (md : Int) (d : Dy) (n : Bool) (by' : Dy) : Nat × Nat := if d.m = 0 then (F.sgn n, 0) else quoW F md d by'
theorem Bd_prod (F : Fm) (a b : Nat) : Bd (mulD (F.vl a) (F.vl b)) 2400 := by
  have hF := fm_facts F
  by_cases h1 : (F.vl a).m = 0
  · rw [mulD_z0 (Or.inl h1)]; exact ⟨by simp only [blen_zero]; omega, by simp, by simp⟩
  · by_cases h2 : (F.vl b).m = 0
    · rw [mulD_z0 (Or.inr h2)]; exact ⟨by simp only [blen_zero]; omega, by simp, by simp⟩
    · have fa : F.fin a := by
        by_cases h : F.fin a
        · exact h
        · exfalso; apply h1; unfold Fm.vl; rw [if_neg h]
      have fb : F.fin b := by
        by_cases h : F.fin b
        · exact h
        · exfalso; apply h2; unfold Fm.vl; rw [if_neg h]
      have e1 := fits_val F fa (by rw [← vl_val fa]; exact h1)
      have e2 := fits_val F fb (by rw [← vl_val fb]; exact h2)
      rw [← vl_val fa] at e1
      rw [← vl_val fb] at e2
      obtain ⟨_, a1, a2, a3⟩ := e1
      obtain ⟨_, b1, b2, b3⟩ := e2
      have hb := blen_mulT a1 b1
      rw [mulD_m (Nz_vl F a) (Nz_vl F b) h1 h2]
      exact ⟨by simp only; omega, by simp only; omega, by simp only; omega⟩
theorem Bd_tm (F : Fm) (a b : Nat) (s : Bool) : Bd (tm F a b s).1 2400 ∧ Nz (tm F a b s).1 := by
  unfold tm; cases s
  · exact ⟨Bd_prod F a b, Nz_mul _ _⟩
  · exact ⟨(Bd_prod F a b).neg, Nz_neg (Nz_mul _ _)⟩
theorem exact_numOf (J : Al G T g) (F : Fm) {w : Nat} (hw : w < 2 * F.sg) :
    ∃ z, run G T 296 [.int .u8 F.u, .int .u64 (w : Int)] = some (numA z (F.vl w, F.ng w)) := by
  apply exP
  rw [run_k G T J.J.exact_numOf]
  obtain ⟨z, k, h1⟩ := word_Value J F hw
  have h2 := word_Split J F hw
  generalize F.vl w = v at *
  generalize F.ng w = n at *
  simp only [fldA, DyA, A3, numA] at *
  repeat' (first | (simp (maxSteps := 9^7) only [seval, exC, c_exact_numOf, h1, h2]) | (simp (maxSteps := 9^7) (disch := first | with_reducible assumption | omega) only [dxB]) | (simp only [kdB]; split) | (simp only [kvB]; split))
  all_goals exact ⟨_, rfl, z, rfl⟩
theorem exact_num_times (J : Al G T g) {z y n k : Bool} {a b : Dy} (na : Nz a) (nb : Nz b) (ha : Bd a 16384) (hb : Bd b 16384) :
    ∃ z', run G T 278 [numA z (a, n), numA y (b, k)] = some (numA z' (mulD a b, n != k)) := by
  apply exP
  rw [run_k G T J.J.exact_num_times]
  obtain ⟨z', h1⟩ := dyad_Mul J (z := z) (y := y) ha hb (mayD_nzb na (ha.mono (by decide))) (mayD_nzb nb (hb.mono (by decide)))
  generalize mulD a b = d at *
  have hne : (n != k) = !decide (n = k) := by cases n <;> cases k <;> rfl
  rw [hne]
  simp only [DyA, A3, numA] at *
  repeat' (first | (simp (maxSteps := 9^7) only [seval, exC, c_exact_num_times, h1]) | (simp (maxSteps := 9^7) (disch := first | with_reducible assumption | omega) only [dxB]) | (simp only [kdB]; split) | (simp only [kvB]; split))
  all_goals exact ⟨_, rfl, z', rfl⟩
theorem exact_num_minus (J : Al G T g) {z n : Bool} {a : Dy} (na : Nz a) (ha : Bd a 131072) :
    ∃ z', run G T 279 [numA z (a, n)] = some (numA z' (negD a, !n)) := by
  apply exP
  rw [run_k G T J.J.exact_num_minus]
  obtain ⟨z', h1⟩ := dyad_Neg J (z := z) (d := a) (mayD_nzb na ha)
  generalize negD a = d at *
  simp only [DyA, A3, numA] at *
  repeat' (first | (simp (maxSteps := 9^7) only [seval, exC, c_exact_num_minus, h1]) | (simp (maxSteps := 9^7) (disch := first | with_reducible assumption | omega) only [dxB]) | (simp only [kdB]; split) | (simp only [kvB]; split))
  all_goals exact ⟨_, rfl, z', rfl⟩
theorem exact_num_plus (J : Al G T g) {z y n k : Bool} {a b : Dy} {md : Int} (na : Nz a) (nb : Nz b) (ha : Bd a 16384) (hb : Bd b 16384) :
    ∃ z' s, run G T 295 [numA z (a, n), numA y (b, k), .int .u8 md] = some (numA z' (addD a b, s)) ∧ ((addD a b).m = 0 → s = zsg md (a, n) (b, k)) := by
  rw [run_k G T J.J.exact_num_plus]
  obtain ⟨z', h1⟩ := dyad_Add J (z := z) (y := y) ha hb (mayD_nzb na (ha.mono (by decide))) (mayD_nzb nb (hb.mono (by decide)))
  have md' := mayD_nzb (Nz_add na nb) ((Bd_add ha hb).mono (by decide))
  have ma' := mayD_nzb na (ha.mono (by decide))
  have s1 := dyad_Sign J (n := (addD a b).n) (z := z') (Dg_dl (addD a b).m) (e := (addD a b).e)
  rw [sign_may md'] at s1
  have s2 := dyad_Sign J (n := a.n) (z := z) (Dg_dl a.m) (e := a.e)
  rw [sign_may ma'] at s2
  have hz : (addD a b).m = 0 → a.m = 0 → b.m = 0 := by intro h ha0; unfold addD at h; rw [if_pos ha0] at h; exact h
  unfold zsg
  generalize addD a b = d at *
  clear md' ma' na nb ha hb
  obtain ⟨an, am, ae⟩ := a
  obtain ⟨dn, dm, de⟩ := d
  simp only [DyA, A3, numA] at *
  by_cases d0 : dm = 0
  · rw [if_pos d0] at s1
    by_cases a0 : am = 0
    · rw [if_pos a0] at s2
      have b0 := hz d0 a0
      by_cases e : n = k
      · refine ⟨z', n, ?_, fun _ => by rw [if_pos ⟨a0, b0, e⟩]⟩
        subst e
        repeat' (first | (simp (maxSteps := 9^7) only [seval, exC, c_exact_num_plus, h1, s1, s2]) | (simp (maxSteps := 9^7) (disch := first | with_reducible assumption | omega) only [dxB]) | (simp only [kdB]; split) | (simp only [kvB]; split))
      · refine ⟨z', decide (md = 5), ?_, fun _ => by rw [if_neg (fun h => e h.2.2)]⟩
        repeat' (first | (simp (maxSteps := 9^7) only [seval, exC, c_exact_num_plus, h1, s1, s2, e]) | (simp (maxSteps := 9^7) (disch := first | with_reducible assumption | omega) only [dxB]) | (simp only [kdB]; split) | (simp only [kvB]; split))
    · rw [if_neg a0] at s2
      refine ⟨z', decide (md = 5), ?_, fun _ => by rw [if_neg (fun h => a0 h.1)]⟩
      cases an <;> (simp only [Bool.false_eq_true, if_false, if_true] at s2; repeat' (first | (simp (maxSteps := 9^7) only [seval, exC, c_exact_num_plus, h1, s1, s2]) | (simp (maxSteps := 9^7) (disch := first | with_reducible assumption | omega) only [dxB]) | (simp only [kdB]; split) | (simp only [kvB]; split)))
  · rw [if_neg d0] at s1
    refine ⟨z', dn, ?_, fun h => absurd h d0⟩
    cases dn <;> (simp only [Bool.false_eq_true, if_false, if_true] at s1; repeat' (first | (simp (maxSteps := 9^7) only [seval, exC, c_exact_num_plus, h1, s1]) | (simp (maxSteps := 9^7) (disch := first | with_reducible assumption | omega) only [dxB]) | (simp only [kdB]; split) | (simp only [kvB]; split)))
end Go.Cv
