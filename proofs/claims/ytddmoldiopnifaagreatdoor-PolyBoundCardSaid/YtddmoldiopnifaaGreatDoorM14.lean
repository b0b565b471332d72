/-
  A part of the proof of the statements of this seat (texts that the law's own text leans on): no condition.
-/
import Derived.Test.YtddmoldiopnifaaGreatDoorM13
import Derived.Test.YtddmoldiopnifaaGreatDoorM6
set_option linter.unusedVariables false
set_option linter.unusedSimpArgs false
namespace Go.Cv
def scaW (F : Fm) (md : Int) (w : Nat) (n : Int) : Nat × Nat := if F.cls w = 5 then (F.nan, 0) else if F.cls w = 4 ∨ F.cls w = 1 then (w, 0) else rndW F md (shD (F.vl w) n)
def uA (F : Fm) (a b : Nat) : Nat := (addW F 4 a b).1
def uM (F : Fm) (a b : Nat) : Nat := (mulW2 F 4 a b).1
noncomputable def uN (F : Fm) (p : Nat × Nat) : Nat := (absZ F 4 p.1 p.2).1
def uS (F : Fm) (w : Nat) : Nat := (scaW F 4 w (-(F.fr + 1 : Nat))).1
def zM (F : Fm) (y z : Nat × Nat) : Nat × Nat := ((mulZ F 1 y.1 y.2 z.1 z.2).1.1, (mulZ F 1 y.1 y.2 z.1 z.2).2.1)
def zP (F : Fm) (p a : Nat × Nat) : Nat × Nat := ((addW F 1 p.1 a.1).1, (addW F 1 p.2 a.2).1)
noncomputable def stE (F : Fm) (z : Nat × Nat) (s : (Nat × Nat) × Nat) (a : Nat × Nat) : (Nat × Nat) × Nat :=
  (zP F (zM F s.1 z) a, uA F (uM F s.2 (uN F z)) (uA F (uS F (uA F (uN F (zM F s.1 z)) (uN F (zP F (zM F s.1 z) a)))) 2))
noncomputable def pE (F : Fm) (z : Nat × Nat) : List (Nat × Nat) → (Nat × Nat) × Nat
  | [] => ((0, 0), 0)
  | [a] => (a, 0)
  | a :: b :: l => stE F z (pE F z (b :: l)) a
noncomputable def bdE (F : Fm) (s : (Nat × Nat) × Nat) : Nat := if F.fin s.1.1 ∧ F.fin s.1.2 ∧ F.fin s.2 then s.2 else F.inf false
def Zw (F : Fm) (p : Nat × Nat) : Prop := p.1 < 2 * F.sg ∧ p.2 < 2 * F.sg
def Zf (F : Fm) (p : Nat × Nat) : Prop := F.fin p.1 ∧ F.fin p.2
theorem addW_lt (F : Fm) {md : Int} (hm : 1 ≤ md ∧ md ≤ 5) {a b : Nat} : (addW F md a b).1 < 2 * F.sg := by
  unfold addW addP
  repeat' split
  · exact nan_lt F
  · exact nan_lt F
  · exact inf_lt F _
  · exact inf_lt F _
  · exact (sgn_facts F _).1
  · exact sumW_lt F hm _
theorem mulW_lt (F : Fm) {md : Int} (hm : 1 ≤ md ∧ md ≤ 5) {a b : Nat} : (mulW2 F md a b).1 < 2 * F.sg := by
  unfold mulW2 mulP
  repeat' split
  · exact nan_lt F
  · exact nan_lt F
  · exact inf_lt F _
  · exact (sgn_facts F _).1
  · exact sumW_lt F hm _
theorem rndW_lt (F : Fm) {md : Int} (hm : 1 ≤ md ∧ md ≤ 5) (d : Dy) : (rndW F md d).1 < 2 * F.sg := by
  have z0 : (0 : Nat) < 2 * F.sg := by cases F <;> decide
  by_cases h : d.m = 0
  · unfold rndW; rw [if_pos h]; exact z0
  · have := sumW_lt F hm d
    unfold sumW at this; rw [if_neg h] at this; exact this
theorem scaW_lt (F : Fm) {md : Int} (hm : 1 ≤ md ∧ md ≤ 5) {w : Nat} (hw : w < 2 * F.sg) (n : Int) : (scaW F md w n).1 < 2 * F.sg := by
  unfold scaW
  repeat' split
  · exact nan_lt F
  · exact hw
  · exact rndW_lt F hm _
theorem uN_lt (F : Fm) (p : Nat × Nat) : uN F p < 2 * F.sg := by
  unfold uN absZ toldW
  repeat' split
  · exact inf_lt F _
  · exact nan_lt F
  · exact (rt_up F (sq_pos F _ _)).1
theorem zM_w (F : Fm) (y z : Nat × Nat) : Zw F (zM F y z) := by
  unfold zM mulZ
  split
  · exact smW_lt F 1 _ _ _ _
  · exact ⟨(pt_wd F (by decide) _ _ (show oneD.m ≠ 0 by decide)).1, (pt_wd F (by decide) _ _ (show oneD.m ≠ 0 by decide)).1⟩
theorem zP_w (F : Fm) (p a : Nat × Nat) : Zw F (zP F p a) := ⟨addW_lt F (by decide), addW_lt F (by decide)⟩
theorem pE_w (F : Fm) (z : Nat × Nat) : ∀ (l : List (Nat × Nat)), (∀ a ∈ l, Zw F a) → Zw F (pE F z l).1 ∧ (pE F z l).2 < 2 * F.sg
  | [], _ => by
    have z0 : (0 : Nat) < 2 * F.sg := by cases F <;> decide
    exact ⟨⟨z0, z0⟩, z0⟩
  | [a], h => by
    have z0 : (0 : Nat) < 2 * F.sg := by cases F <;> decide
    exact ⟨h a (List.mem_cons_self ..), z0⟩
  | a :: b :: l, h => ⟨zP_w F _ _, addW_lt F (by decide)⟩
theorem nan_fin (F : Fm) : ¬ F.fin F.nan := by cases F <;> decide
theorem inf_fin (F : Fm) (n : Bool) : ¬ F.fin (F.inf n) := by cases F <;> cases n <;> decide
theorem addW_fin (F : Fm) (md : Int) {a b : Nat} (h : F.fin (addW F md a b).1) : F.fin a ∧ F.fin b := by
  have ra := cls_range F a
  have rb := cls_range F b
  rw [fin_iff, fin_iff]
  unfold addW addP at h
  split at h
  · exact absurd h (nan_fin F)
  · split at h
    · exact absurd h (nan_fin F)
    · split at h
      · exact absurd h (inf_fin F _)
      · split at h
        · exact absurd h (inf_fin F _)
        · omega
theorem mulW_fin (F : Fm) (md : Int) {a b : Nat} (h : F.fin (mulW2 F md a b).1) : F.fin a ∧ F.fin b := by
  have ra := cls_range F a
  have rb := cls_range F b
  rw [fin_iff, fin_iff]
  unfold mulW2 mulP at h
  split at h
  · exact absurd h (nan_fin F)
  · split at h
    · exact absurd h (nan_fin F)
    · split at h
      · exact absurd h (inf_fin F _)
      · omega
theorem scaW_fin (F : Fm) (md : Int) {w : Nat} {n : Int} (h : F.fin (scaW F md w n).1) : F.fin w := by
  have rw' := cls_range F w
  unfold scaW at h
  split at h
  · exact absurd h (nan_fin F)
  · split at h
    · exact h
    · rw [fin_iff]; omega
theorem uN_fin (F : Fm) {p : Nat × Nat} (h : F.fin (uN F p)) : Zf F p := by
  have hz := zcl_range F p.1 p.2
  unfold uN absZ toldW at h
  split at h
  · exact absurd h (inf_fin F _)
  · split at h
    · exact absurd h (nan_fin F)
    · exact (zcl_fin2 F).2 (by omega)
theorem two_w (F : Fm) : (2 : Nat) < 2 * F.sg ∧ F.fin 2 ∧ F.vl 2 = ⟨false, 1, F.low + 1⟩ := by
  have m := mkD_oddp (n := false) (m := 1) (e := F.low + 1) (by decide) 1
  rw [show (1 * 2 ^ 1 : Nat) = 2 from rfl, show F.low + 1 - ((1 : Nat) : Int) = F.low by omega] at m
  have f : F.fin 2 := by cases F <;> decide
  refine ⟨by cases F <;> decide, f, ?_⟩
  rw [vl_val f, ← m]
  cases F <;> rfl
theorem stE_fin (F : Fm) {z : Nat × Nat} {s : (Nat × Nat) × Nat} {a : Nat × Nat} (h : F.fin (stE F z s a).2) :
    F.fin (uM F s.2 (uN F z)) ∧ F.fin s.2 ∧ F.fin (uN F z) ∧ F.fin (uA F (uS F (uA F (uN F (zM F s.1 z)) (uN F (zP F (zM F s.1 z) a)))) 2) ∧ F.fin (uS F (uA F (uN F (zM F s.1 z)) (uN F (zP F (zM F s.1 z) a)))) ∧ F.fin (uA F (uN F (zM F s.1 z)) (uN F (zP F (zM F s.1 z) a))) ∧ F.fin (uN F (zM F s.1 z)) ∧ F.fin (uN F (zP F (zM F s.1 z) a)) ∧ Zf F (zM F s.1 z) ∧ Zf F (zP F (zM F s.1 z) a) := by
  obtain ⟨h1, h2⟩ := addW_fin F 4 (show F.fin (addW F 4 _ _).1 from h)
  obtain ⟨h3, h4⟩ := mulW_fin F 4 (show F.fin (mulW2 F 4 _ _).1 from h1)
  obtain ⟨h5, _⟩ := addW_fin F 4 (show F.fin (addW F 4 _ _).1 from h2)
  have h6 := scaW_fin F 4 (show F.fin (scaW F 4 _ _).1 from h5)
  obtain ⟨h7, h8⟩ := addW_fin F 4 (show F.fin (addW F 4 _ _).1 from h6)
  exact ⟨h1, h3, h4, h2, h5, h6, h7, h8, uN_fin F h7, uN_fin F h8⟩
theorem Nz_sh {d : Dy} (h : Nz d) (n : Int) : Nz (shD d n) := by
  unfold shD
  by_cases h0 : d.m = 0
  · rw [if_pos h0]; exact h
  · rw [if_neg h0]; exact ⟨fun q => absurd q h0, fun _ => h.2 h0⟩
def zcells : List (Nat × Nat) → List AV
  | [] => []
  | p :: l => .int .u64 (p.1 : Int) :: .int .u64 (p.2 : Int) :: zcells l
def ZL (z : Bool) (l : List (Nat × Nat)) : AV := if z = true ∧ l = [] then .nil else .imm l.length (zcells l)
theorem zcells_get : ∀ (l : List (Nat × Nat)) (j : Nat), (zcells l)[j]? = (l[j / 2]?).map fun p => AV.int .u64 ((if j % 2 = 0 then p.1 else p.2 : Nat) : Int)
  | [], j => by simp [zcells]
  | p :: l, 0 => by simp [zcells]
  | p :: l, 1 => by simp [zcells]
  | p :: l, j + 2 => by
    rw [zcells, List.getElem?_cons_succ, List.getElem?_cons_succ, zcells_get l j, show (j + 2) / 2 = j / 2 + 1 by omega, List.getElem?_cons_succ, show (j + 2) % 2 = j % 2 by omega]
end Go.Cv
namespace Go.Cv
theorem nn_of {x : Dy} {L : Int} (hz : Nz x) (hl : LoE x L) (h : 0 ≤ iv x L) : x.n = false := by
  by_cases h0 : x.m = 0
  · rw [hz.1 h0]
  · cases hn : x.n with
    | false => rfl
    | true =>
      exfalso
      unfold iv at h
      rw [hn] at h
      have := Nat.mul_pos (Nat.pos_of_ne_zero h0) (Nat.two_pow_pos (x.e - L).toNat)
      simp only [if_true] at h
      omega
theorem nn_iv {x : Dy} (L : Int) (h : x.n = false) : 0 ≤ iv x L := by unfold iv; rw [h]; simp only [Bool.false_eq_true, if_false, Int.one_mul]; exact Int.natCast_nonneg _
theorem LoEv {F : Fm} {w : Nat} (hf : F.fin w) {L : Int} (h : L ≤ -2000) : LoE (F.vl w) L := (LoE_vl hf).mono (by have := fm_facts F; omega)
theorem e_low {d : Dy} {K : Int} (h : LoE d K) (h0 : d.m ≠ 0) : K ≤ d.e := h.resolve_left h0
theorem sumU (F : Fm) {d : Dy} (nz : Nz d) {K : Int} (hK : LoE d K) (hn : d.n = false) (hf : F.fin (sumW F 4 d).1) : (F.vl (sumW F 4 d).1).n = false ∧ ∀ L, L ≤ F.low → L ≤ K - 60 → iv d L ≤ iv (F.vl (sumW F 4 d).1) L := by
  unfold sumW at hf ⊢
  by_cases h0 : d.m = 0
  · rw [if_pos h0, (sgn_facts F _).2.2.2]
    exact ⟨rfl, fun L _ _ => by rw [iv_zero h0, iv_zero rfl]; decide⟩
  · rw [if_neg h0] at hf ⊢
    obtain ⟨_, h | ⟨_, h⟩⟩ := rnd_up F nz h0 hn
    · have := fin_iff.1 hf; omega
    · have k := e_low hK h0
      refine ⟨?_, fun L l1 l2 => (h L l1 (by omega)).2⟩
      obtain ⟨q1, q2⟩ := h (min F.low (K - 60)) (by omega) (by omega)
      exact nn_of (Nz_vl F _) q1 (Int.le_trans (nn_iv _ hn) q2)
theorem uA_up (F : Fm) {a b : Nat} (ha : a < 2 * F.sg) (hb : b < 2 * F.sg) (na : (F.vl a).n = false) (nb : (F.vl b).n = false) (hf : F.fin (uA F a b)) : (F.vl (uA F a b)).n = false ∧ ∀ L, L ≤ -4000 → iv (F.vl a) L + iv (F.vl b) L ≤ iv (F.vl (uA F a b)) L := by
  have hF := fm_facts F
  obtain ⟨fa, fb⟩ := addW_fin F 4 hf
  unfold uA addW at hf ⊢
  rw [addP_fin F 4 (fin_iff.1 fa) (fin_iff.1 fb)] at hf ⊢
  by_cases hz : F.cls a = 1 ∧ F.cls b = 1 ∧ F.ng a = F.ng b
  · rw [if_pos hz, (sgn_facts F _).2.2.2]
    refine ⟨rfl, fun L _ => ?_⟩
    rw [iv_zero ((cls_val1 ha fa).1 hz.1), iv_zero ((cls_val1 hb fb).1 hz.2.1), iv_zero rfl]; decide
  · rw [if_neg hz] at hf ⊢
    obtain ⟨i1, l1⟩ := iv_add (LoE_vl fa) (LoE_vl fb)
    have nz := Nz_add (Nz_vl F a) (Nz_vl F b)
    have hn := nn_of nz l1 (by rw [i1]; have := nn_iv F.low na; have := nn_iv F.low nb; omega)
    obtain ⟨g1, g2⟩ := sumU F nz l1 hn hf
    refine ⟨g1, fun L hL => ?_⟩
    have := g2 L (by omega) (by omega)
    rw [(iv_add (LoEv fa (by omega)) (LoEv fb (by omega))).1] at this
    exact this
theorem uM_up (F : Fm) {a b : Nat} (ha : a < 2 * F.sg) (hb : b < 2 * F.sg) (na : (F.vl a).n = false) (nb : (F.vl b).n = false) (hf : F.fin (uM F a b)) : (F.vl (uM F a b)).n = false ∧ ∀ K L, K ≤ -4000 → L ≤ -4000 → iv (F.vl a) K * iv (F.vl b) L ≤ iv (F.vl (uM F a b)) (K + L) := by
  have hF := fm_facts F
  obtain ⟨fa, fb⟩ := mulW_fin F 4 hf
  unfold uM mulW2 at hf ⊢
  rw [mulP_fin F 4 (fin_iff.1 fa) (fin_iff.1 fb)] at hf ⊢
  by_cases hz : F.cls a = 1 ∨ F.cls b = 1
  · rw [if_pos hz, (sgn_facts F _).2.2.2]
    refine ⟨rfl, fun K L _ _ => ?_⟩
    have : iv (F.vl a) K * iv (F.vl b) L = 0 := by
      rcases hz with h | h
      · rw [iv_zero ((cls_val1 ha fa).1 h), Int.zero_mul]
      · rw [iv_zero ((cls_val1 hb fb).1 h), Int.mul_zero]
    rw [this, iv_zero rfl]; decide
  · rw [if_neg hz] at hf ⊢
    obtain ⟨i1, l1⟩ := iv_mul (LoE_vl fa) (LoE_vl fb)
    have nz := Nz_mul (F.vl a) (F.vl b)
    have hn := nn_of nz l1 (by rw [i1]; exact Int.mul_nonneg (nn_iv _ na) (nn_iv _ nb))
    obtain ⟨g1, g2⟩ := sumU F nz l1 hn hf
    refine ⟨g1, fun K L hK hL => ?_⟩
    have := g2 (K + L) (by omega) (by omega)
    rw [(iv_mul (LoEv fa (by omega)) (LoEv fb (by omega))).1] at this
    exact this
theorem shD_iv {d : Dy} {k : Nat} {L : Int} (h : LoE d L) : iv d L = iv (shD d (-(k : Int))) (L - k) ∧ LoE (shD d (-(k : Int))) (L - k) := by
  by_cases h0 : d.m = 0
  · unfold shD; rw [if_pos h0, iv_zero h0, iv_zero h0]; exact ⟨rfl, Or.inl h0⟩
  · have := e_low h h0
    unfold shD; rw [if_neg h0]
    refine ⟨?_, Or.inr (by simp only; omega)⟩
    unfold iv
    simp only
    rw [show (d.e - L).toNat = (d.e + -(k : Int) - (L - k)).toNat by omega]
theorem uS_up (F : Fm) {w : Nat} (hw : w < 2 * F.sg) (nw : (F.vl w).n = false) (hf : F.fin (uS F w)) : (F.vl (uS F w)).n = false ∧ ∀ L, L ≤ -4000 → iv (F.vl w) L ≤ ((2 ^ (F.fr + 1) : Nat) : Int) * iv (F.vl (uS F w)) L := by
  have hF := fm_facts F
  have fw := scaW_fin F 4 hf
  have cw := fin_iff.1 fw
  unfold uS scaW at hf ⊢
  rw [if_neg (by omega)] at hf ⊢
  by_cases h1 : F.cls w = 4 ∨ F.cls w = 1
  · rw [if_pos h1]
    refine ⟨nw, fun L _ => ?_⟩
    simp only
    rw [iv_zero ((cls_val1 hw fw).1 (by omega)), Int.mul_zero]; exact Int.le_refl _
  · rw [if_neg h1] at hf ⊢
    have h0 : (F.vl w).m ≠ 0 := fun q => h1 (Or.inr ((cls_val1 hw fw).2 q))
    have hs0 : (shD (F.vl w) (-(F.fr + 1 : Nat))).m ≠ 0 := by unfold shD; rw [if_neg h0]; exact h0
    have nz := Nz_sh (Nz_vl F w) (-(F.fr + 1 : Nat))
    have hn : (shD (F.vl w) (-(F.fr + 1 : Nat))).n = false := by unfold shD; rw [if_neg h0]; exact nw
    have e1 : rndW F 4 (shD (F.vl w) (-(F.fr + 1 : Nat))) = sumW F 4 (shD (F.vl w) (-(F.fr + 1 : Nat))) := by unfold sumW; rw [if_neg hs0]
    rw [e1] at hf ⊢
    obtain ⟨_, l1⟩ := shD_iv (k := F.fr + 1) (LoE_vl fw)
    obtain ⟨g1, g2⟩ := sumU F nz l1 hn hf
    refine ⟨g1, fun L hL => ?_⟩
    have h2 := g2 L (by omega) (by omega)
    obtain ⟨i3, _⟩ := shD_iv (k := F.fr + 1) (L := L + (F.fr + 1 : Nat)) (LoEv fw (by omega))
    rw [show L + ((F.fr + 1 : Nat) : Int) - ((F.fr + 1 : Nat) : Int) = L by omega] at i3
    rw [← i3] at h2
    rw [iv_scale (L := L + (F.fr + 1 : Nat)) (L' := L) (LoEv fw (by omega)) (by omega), show (L + ((F.fr + 1 : Nat) : Int) - L).toNat = F.fr + 1 by omega, Int.mul_comm]
    exact Int.mul_le_mul_of_nonneg_left h2 (Int.natCast_nonneg _)
theorem uN_up (F : Fm) {p : Nat × Nat} (hf : F.fin (uN F p)) : (F.vl (uN F p)).n = false ∧ ∀ L, L ≤ -4000 → NB (iv (F.vl p.1) L) (iv (F.vl p.2) L) (iv (F.vl (uN F p)) L) := by
  have hF := fm_facts F
  obtain ⟨f1, f2⟩ := uN_fin F hf
  unfold uN at hf ⊢
  rw [absZ_fin F 4 f1 f2] at hf ⊢
  obtain ⟨_, h | ⟨_, h⟩⟩ := rt_up F (sq_pos F p.1 p.2)
  · have := fin_iff.1 hf; omega
  · have lo : ∀ L, L ≤ -4000 → 2 * L ≤ (sqD F p.1 p.2).e - 200 := fun L hL => by
      by_cases h0 : (sqD F p.1 p.2).m = 0
      · rw [(Nz_sq F p.1 p.2).1 h0]; simp only; omega
      · have l1 : LoE (sqD F p.1 p.2) (F.low + F.low) := (iv_add (iv_mul (LoE_vl f1) (LoE_vl f1)).2 (iv_mul (LoE_vl f2) (LoE_vl f2)).2).2
        have := e_low l1 h0
        omega
    refine ⟨?_, fun L hL => ?_⟩
    · obtain ⟨q1, q2, _⟩ := h (-4000) (by omega) (lo _ (Int.le_refl _))
      exact nn_of (Nz_vl F _) q2 q1
    · obtain ⟨q1, q2, q3⟩ := h L (by omega) (lo L hL)
      rw [iv_sq F (LoEv f1 (by omega)) (LoEv f2 (by omega))] at q3
      exact ⟨q1, q3⟩
theorem Nr_zero (F : Fm) {d : Dy} {w : Nat} (h0 : d.m = 0) (hv : F.vl w = ⟨false, 0, 0⟩) (L : Int) : Nr F d w L := by
  unfold Nr
  rw [hv, iv_zero h0, iv_zero rfl]
  exact ⟨Or.inl rfl, by simp⟩
theorem sum_near (F : Fm) {d : Dy} (nz : Nz d) {K : Int} (hK : LoE d K) (hf : F.fin (sumW F 1 d).1) {L : Int} (l1 : L ≤ F.low) (l2 : L ≤ K - 60) : Nr F d (sumW F 1 d).1 L := by
  unfold sumW at hf ⊢
  by_cases h0 : d.m = 0
  · rw [if_pos h0]; show Nr F d (F.sgn (decide ((1 : Int) = 5))) L; exact Nr_zero F h0 (sgn_facts F _).2.2.2 L
  · rw [if_neg h0] at hf ⊢
    rcases rnd_near F nz h0 with h | ⟨_, _, h⟩
    · have := fin_iff.1 hf; omega
    · exact h L l1 (by have := e_low hK h0; omega)
theorem pt_near (F : Fm) {d : Dy} (nz : Nz d) {K : Int} (hK : LoE d K) {s : Bool} (hf : F.fin (ptQ F 1 d s oneD).1) {L : Int} (l1 : L ≤ F.low) (l2 : L ≤ K - 60) : Nr F d (ptQ F 1 d s oneD).1 L := by
  unfold ptQ at hf ⊢
  by_cases h0 : d.m = 0
  · rw [if_pos h0]; show Nr F d (F.sgn s) L; exact Nr_zero F h0 (sgn_facts F _).2.2.2 L
  · rw [if_neg h0] at hf ⊢
    have e : quoW F 1 d oneD = rndW F 1 d := quo_exact F 1 nz nz Nz_one h0 (by decide) (K := K) (L := 0) (by rw [Int.add_zero]; exact hK) hK LoE_one (by rw [iv_one, Int.mul_one, Int.add_zero])
    rw [e] at hf ⊢
    rcases rnd_near F nz h0 with h | ⟨_, _, h⟩
    · have := fin_iff.1 hf; omega
    · exact h L l1 (by have := e_low hK h0; omega)
theorem zM_near (F : Fm) {y z : Nat × Nat} (fy : Zf F y) (fz : Zf F z) (hf : Zf F (zM F y z)) : ∃ X1 X2 : Dy, (∀ K L, K ≤ -4000 → L ≤ -4000 → LoE X1 (K + L) ∧ LoE X2 (K + L) ∧
    iv X1 (K + L) = iv (F.vl y.1) K * iv (F.vl z.1) L - iv (F.vl y.2) K * iv (F.vl z.2) L ∧ iv X2 (K + L) = iv (F.vl y.1) K * iv (F.vl z.2) L + iv (F.vl y.2) K * iv (F.vl z.1) L) ∧ ∀ L, L ≤ -4000 → Nr F X1 (zM F y z).1 L ∧ Nr F X2 (zM F y z).2 L := by
  have hF := fm_facts F
  unfold zM at hf ⊢
  have e : mulZ F 1 y.1 y.2 z.1 z.2 = mulR F 1 y.1 y.2 z.1 z.2 := by unfold mulZ smS; rw [decide_eq_true ⟨(zcl_fin2 F).1 fy, (zcl_fin2 F).1 fz⟩]; rfl
  rw [e] at hf ⊢
  have lev : ∀ K L, K ≤ F.low → L ≤ F.low → LoE (addD (tm F y.1 z.1 false).1 (tm F y.2 z.2 true).1) (K + L) ∧ LoE (addD (tm F y.1 z.2 false).1 (tm F y.2 z.1 false).1) (K + L) ∧
      iv (addD (tm F y.1 z.1 false).1 (tm F y.2 z.2 true).1) (K + L) = iv (F.vl y.1) K * iv (F.vl z.1) L - iv (F.vl y.2) K * iv (F.vl z.2) L ∧ iv (addD (tm F y.1 z.2 false).1 (tm F y.2 z.1 false).1) (K + L) = iv (F.vl y.1) K * iv (F.vl z.2) L + iv (F.vl y.2) K * iv (F.vl z.1) L := fun K L hK hL => by
    have a1 := (LoE_vl fy.1).mono hK
    have a2 := (LoE_vl fy.2).mono hK
    have b1 := (LoE_vl fz.1).mono hL
    have b2 := (LoE_vl fz.2).mono hL
    obtain ⟨m1, n1⟩ := iv_mul a1 b1
    obtain ⟨m2, n2⟩ := iv_mul a2 b2
    obtain ⟨m3, n3⟩ := iv_mul a1 b2
    obtain ⟨m4, n4⟩ := iv_mul a2 b1
    obtain ⟨i1, l1⟩ := iv_add n1 (LoE_neg n2)
    obtain ⟨i2, l2⟩ := iv_add n3 n4
    refine ⟨l1, l2, ?_, ?_⟩
    · show iv (addD (mulD (F.vl y.1) (F.vl z.1)) (negD (mulD (F.vl y.2) (F.vl z.2)))) (K + L) = _
      rw [i1, iv_neg, m1, m2]; omega
    · show iv (addD (mulD (F.vl y.1) (F.vl z.2)) (mulD (F.vl y.2) (F.vl z.1))) (K + L) = _
      rw [i2, m3, m4]
  refine ⟨_, _, fun K L hK hL => lev K L (by omega) (by omega), fun L hL => ?_⟩
  obtain ⟨k1, k2, _⟩ := lev F.low F.low (Int.le_refl _) (Int.le_refl _)
  exact ⟨pt_near F (Nz_add (Bd_tm F _ _ _).2 (Bd_tm F _ _ _).2) k1 hf.1 (by omega) (by omega), pt_near F (Nz_add (Bd_tm F _ _ _).2 (Bd_tm F _ _ _).2) k2 hf.2 (by omega) (by omega)⟩
theorem addW_near (F : Fm) {a b : Nat} (ha : a < 2 * F.sg) (hb : b < 2 * F.sg) (hf : F.fin (addW F 1 a b).1) {L : Int} (hL : L ≤ -4000) : Nr F (addD (F.vl a) (F.vl b)) (addW F 1 a b).1 L := by
  have hF := fm_facts F
  obtain ⟨fa, fb⟩ := addW_fin F 1 hf
  unfold addW at hf ⊢
  rw [addP_fin F 1 (fin_iff.1 fa) (fin_iff.1 fb)] at hf ⊢
  obtain ⟨i1, l1⟩ := iv_add (LoE_vl fa) (LoE_vl fb)
  by_cases hz : F.cls a = 1 ∧ F.cls b = 1 ∧ F.ng a = F.ng b
  · rw [if_pos hz]
    show Nr F _ (F.sgn (F.ng a)) L
    refine Nr_zero F ?_ (sgn_facts F _).2.2.2 L
    exact iv_eq0 (Nz_add (Nz_vl F a) (Nz_vl F b)) l1 (by rw [i1, iv_zero ((cls_val1 ha fa).1 hz.1), iv_zero ((cls_val1 hb fb).1 hz.2.1)]; rfl)
  · rw [if_neg hz] at hf ⊢
    exact sum_near F (Nz_add (Nz_vl F a) (Nz_vl F b)) l1 hf (by omega) (by omega)
end Go.Cv
namespace Go.Cv
theorem NB.cong {x y x' y' n : Int} (h : NB x y n) (hx : x' = x) (hy : y' = y) : NB x' y' n := by rw [hx, hy]; exact h
def exE (F : Fm) (z : Nat × Nat) : List (Nat × Nat) → Dy × Dy
  | [] => (⟨false, 0, 0⟩, ⟨false, 0, 0⟩)
  | a :: l => (addD (subD (mulD (exE F z l).1 (F.vl z.1)) (mulD (exE F z l).2 (F.vl z.2))) (F.vl a.1), addD (addD (mulD (exE F z l).1 (F.vl z.2)) (mulD (exE F z l).2 (F.vl z.1))) (F.vl a.2))
theorem exE_nz (F : Fm) (z : Nat × Nat) : ∀ l, Nz (exE F z l).1 ∧ Nz (exE F z l).2
  | [] => ⟨⟨fun _ => rfl, fun h => absurd rfl h⟩, ⟨fun _ => rfl, fun h => absurd rfl h⟩⟩
  | a :: l => ⟨Nz_add (Nz_sub (Nz_mul _ _) (Nz_mul _ _)) (Nz_vl F _), Nz_add (Nz_add (Nz_mul _ _) (Nz_mul _ _)) (Nz_vl F _)⟩
theorem exE_iv (F : Fm) {z : Nat × Nat} (fz : Zf F z) {a : Nat × Nat} (fa : Zf F a) {l : List (Nat × Nat)} {M K : Int} (hK : K ≤ -2000) (hMK : M + K ≤ -2000) (h1 : LoE (exE F z l).1 M) (h2 : LoE (exE F z l).2 M) :
    (LoE (exE F z (a :: l)).1 (M + K) ∧ LoE (exE F z (a :: l)).2 (M + K)) ∧
    iv (exE F z (a :: l)).1 (M + K) = iv (exE F z l).1 M * iv (F.vl z.1) K - iv (exE F z l).2 M * iv (F.vl z.2) K + iv (F.vl a.1) (M + K) ∧
    iv (exE F z (a :: l)).2 (M + K) = iv (exE F z l).1 M * iv (F.vl z.2) K + iv (exE F z l).2 M * iv (F.vl z.1) K + iv (F.vl a.2) (M + K) := by
  obtain ⟨m1, n1⟩ := iv_mul h1 (LoEv fz.1 hK)
  obtain ⟨m2, n2⟩ := iv_mul h2 (LoEv fz.2 hK)
  obtain ⟨m3, n3⟩ := iv_mul h1 (LoEv fz.2 hK)
  obtain ⟨m4, n4⟩ := iv_mul h2 (LoEv fz.1 hK)
  obtain ⟨s1, t1⟩ := iv_sub n1 n2
  obtain ⟨s2, t2⟩ := iv_add n3 n4
  obtain ⟨u1, v1⟩ := iv_add t1 (LoEv fa.1 hMK)
  obtain ⟨u2, v2⟩ := iv_add t2 (LoEv fa.2 hMK)
  exact ⟨⟨v1, v2⟩, by show iv (addD _ _) _ = _; rw [u1, s1, m1, m2], by show iv (addD _ _) _ = _; rw [u2, s2, m3, m4]⟩
theorem two_iv (F : Fm) {L : Int} (hL : L ≤ -2000) : iv (F.vl 2) L = 2 * ((2 ^ (F.low - L).toNat : Nat) : Int) := by
  have hF := fm_facts F
  rw [(two_w F).2.2]
  unfold iv
  simp only [Bool.false_eq_true, if_false, Int.one_mul, Nat.one_mul]
  rw [show (F.low + 1 - L).toNat = (F.low - L).toNat + 1 by omega, Nat.pow_succ, Int.natCast_mul, Int.mul_comm]
  rfl
theorem Nr_int {F : Fm} {d : Dy} {w : Nat} {L : Int} (h : Nr F d w L) : 2 * ((2 ^ (F.fr + 1) : Nat) : Int) * ((iv d L - iv (F.vl w) L).natAbs : Int) ≤ 2 * ((iv (F.vl w) L).natAbs : Int) + ((2 ^ (F.fr + 1) : Nat) : Int) * ((2 ^ (F.low - L).toNat : Nat) : Int) := by
  have := Int.ofNat_le.2 h.2
  push_cast at this ⊢
  exact this
theorem bound_holds (F : Fm) {z : Nat × Nat} (wz : Zw F z) (fz : Zf F z) : ∀ (l : List (Nat × Nat)), (∀ a ∈ l, Zw F a ∧ Zf F a) → F.fin (pE F z l).2 →
    Zf F (pE F z l).1 ∧ (F.vl (pE F z l).2).n = false ∧ ∃ L0, ∀ L, L ≤ L0 → (LoE (exE F z l).1 L ∧ LoE (exE F z l).2 L) ∧
      NB (iv (exE F z l).1 L - iv (F.vl (pE F z l).1.1) L) (iv (exE F z l).2 L - iv (F.vl (pE F z l).1.2) L) (iv (F.vl (pE F z l).2) L)
  | [], _, _ => by
    have z4 : F.vl 0 = ⟨false, 0, 0⟩ := (sgn_facts F false).2.2.2
    have zf : F.fin 0 := fin_iff.2 (Or.inl (sgn_facts F false).2.2.1)
    refine ⟨⟨zf, zf⟩, by show (F.vl 0).n = false; rw [z4], 0, fun L _ => ⟨⟨Or.inl rfl, Or.inl rfl⟩, ?_⟩⟩
    show NB (iv ⟨false, 0, 0⟩ L - iv (F.vl 0) L) (iv ⟨false, 0, 0⟩ L - iv (F.vl 0) L) (iv (F.vl 0) L)
    rw [z4, iv_zero rfl]
    exact NB_zero (by decide)
  | [a], h, _ => by
    obtain ⟨wa, fa⟩ := h a (List.mem_cons_self ..)
    have z4 : F.vl 0 = ⟨false, 0, 0⟩ := (sgn_facts F false).2.2.2
    refine ⟨fa, by show (F.vl 0).n = false; rw [z4], -4000, fun L hL => ?_⟩
    obtain ⟨e0, e1, e2⟩ := exE_iv F fz fa (l := []) (M := L + 2000) (K := -2000) (by decide) (by omega) (Or.inl rfl) (Or.inl rfl)
    rw [show L + 2000 + -2000 = L by omega] at e0 e1 e2
    refine ⟨e0, ?_⟩
    rw [e1, e2]
    show NB (iv ⟨false, 0, 0⟩ (L + 2000) * _ - iv ⟨false, 0, 0⟩ (L + 2000) * _ + iv (F.vl a.1) L - iv (F.vl a.1) L) (iv ⟨false, 0, 0⟩ (L + 2000) * _ + iv ⟨false, 0, 0⟩ (L + 2000) * _ + iv (F.vl a.2) L - iv (F.vl a.2) L) (iv (F.vl 0) L)
    have zi : ∀ L, iv ⟨false, 0, 0⟩ L = 0 := fun L => iv_zero rfl L
    rw [z4]
    simp only [zi, Int.zero_mul]
    have : NB 0 0 0 := NB_zero (by decide)
    simpa using this
  | a :: b :: l, h, hf => by
    obtain ⟨wa, fa⟩ := h a (List.mem_cons_self ..)
    have hl : ∀ c ∈ b :: l, Zw F c ∧ Zf F c := fun c hc => h c (List.mem_cons_of_mem _ hc)
    have hf' : F.fin (stE F z (pE F z (b :: l)) a).2 := hf
    have ws := pE_w F z (b :: l) (fun c hc => (hl c hc).1)
    show Zf F (stE F z (pE F z (b :: l)) a).1 ∧ (F.vl (stE F z (pE F z (b :: l)) a).2).n = false ∧ ∃ L0, ∀ L, L ≤ L0 → (LoE (exE F z (a :: b :: l)).1 L ∧ LoE (exE F z (a :: b :: l)).2 L) ∧
      NB (iv (exE F z (a :: b :: l)).1 L - iv (F.vl (stE F z (pE F z (b :: l)) a).1.1) L) (iv (exE F z (a :: b :: l)).2 L - iv (F.vl (stE F z (pE F z (b :: l)) a).1.2) L) (iv (F.vl (stE F z (pE F z (b :: l)) a).2) L)
    obtain ⟨f1, f2, f3, f4, f5, f6, f7, f8, f9, f10⟩ := stE_fin F hf'
    obtain ⟨fs, ns, L1, hN⟩ := bound_holds F wz fz (b :: l) hl f2
    have fp : F.fin (pE F z (b :: l)).2 := f2
    have e0 : stE F z (pE F z (b :: l)) a = (zP F (zM F (pE F z (b :: l)).1 z) a, uA F (uM F (pE F z (b :: l)).2 (uN F z)) (uA F (uS F (uA F (uN F (zM F (pE F z (b :: l)).1 z)) (uN F (zP F (zM F (pE F z (b :: l)).1 z) a)))) 2)) := rfl
    rw [e0] at hf' ⊢
    simp only at hf' ⊢
    have wp := zM_w F (pE F z (b :: l)).1 z
    have wq := zP_w F (zM F (pE F z (b :: l)).1 z) a
    obtain ⟨X1, X2, hX, hXn⟩ := zM_near F fs fz f9
    generalize pE F z (b :: l) = s at *
    obtain ⟨y, B⟩ := s
    simp only at *
    generalize zM F y z = p at *
    generalize hq : zP F p a = q at *
    -- the bounds
    obtain ⟨g1, g2⟩ := uN_up F f3
    obtain ⟨g3, g4⟩ := uN_up F f7
    obtain ⟨g5, g6⟩ := uN_up F f8
    obtain ⟨g7, g8⟩ := uM_up F ws.2 (uN_lt F z) ns g1 f1
    obtain ⟨g9, g10⟩ := uA_up F (uN_lt F p) (uN_lt F q) g3 g5 f6
    have l6 : uA F (uN F p) (uN F q) < 2 * F.sg := addW_lt F (by decide)
    obtain ⟨g11, g12⟩ := uS_up F l6 g9 f5
    have l5 : uS F (uA F (uN F p) (uN F q)) < 2 * F.sg := scaW_lt F (by decide) l6 _
    have t2 : (F.vl 2).n = false := by rw [(two_w F).2.2]
    obtain ⟨g13, g14⟩ := uA_up F l5 (two_w F).1 g11 t2 f4
    have l7 : uM F B (uN F z) < 2 * F.sg := mulW_lt F (by decide)
    have l8 : uA F (uS F (uA F (uN F p) (uN F q))) 2 < 2 * F.sg := addW_lt F (by decide)
    obtain ⟨g15, g16⟩ := uA_up F l7 l8 g7 g13 hf'
    refine ⟨f10, g15, min L1 (-4000) - 4000, fun L hL => ?_⟩
    have hM1 : L + 4000 ≤ L1 := by omega
    have hM2 : L + 4000 ≤ -4000 := by omega
    obtain ⟨⟨la, lb⟩, hB⟩ := hN (L + 4000) hM1
    obtain ⟨x0, x1, x2⟩ := exE_iv F fz fa (l := b :: l) (M := L + 4000) (K := -4000) (by decide) (by omega) la lb
    obtain ⟨_, _, X3, X4⟩ := hX (L + 4000) (-4000) hM2 (Int.le_refl _)
    have m1 := hB.mul (g2 (-4000) (Int.le_refl _))
    have m2 := g8 (L + 4000) (-4000) hM2 (Int.le_refl _)
    rw [show L + 4000 + -4000 = L by omega] at x0 x1 x2 X3 X4 m2
    refine ⟨x0, ?_⟩
    have hL4 : L ≤ -4000 := by omega
    have a1 := m1.mono m2
    -- the step's own errors
    obtain ⟨n1, n2⟩ := hXn L hL4
    have q1 : q.1 = (addW F 1 p.1 a.1).1 := by rw [← hq]; rfl
    have q2 : q.2 = (addW F 1 p.2 a.2).1 := by rw [← hq]; rfl
    have n3 := addW_near F (a := p.1) (b := a.1) wp.1 wa.1 (by rw [← q1]; exact f10.1) hL4
    have n4 := addW_near F (a := p.2) (b := a.2) wp.2 wa.2 (by rw [← q2]; exact f10.2) hL4
    rw [← q1] at n3
    rw [← q2] at n4
    have i3 := Nr_int n3
    have i4 := Nr_int n4
    rw [(iv_add (LoEv f9.1 (by omega)) (LoEv fa.1 (by omega))).1] at i3
    rw [(iv_add (LoEv f9.2 (by omega)) (LoEv fa.2 (by omega))).1] at i4
    have hp : (0 : Int) < ((2 ^ (F.fr + 1) : Nat) : Int) := by have := Nat.two_pow_pos (F.fr + 1); omega
    have b1 := NB.err hp (Int.natCast_nonneg _) (g4 L hL4) (Nr_int n1) (Nr_int n2)
    have b2 := NB.err hp (Int.natCast_nonneg _) (g6 L hL4) i3 i4
    have b3 := b1.add b2
    have c1 := g10 L hL4
    have c2 := g12 L hL4
    have c3 := g14 L hL4
    rw [two_iv F (by omega)] at c3
    have c4 := g16 L hL4
    generalize ((2 ^ (F.fr + 1) : Nat) : Int) = P at *
    generalize ((2 ^ (F.low - L).toNat : Nat) : Int) = U at *
    have c5 : iv (F.vl (uN F p)) L + P * U + (iv (F.vl (uN F q)) L + P * U) ≤ P * iv (F.vl (uA F (uS F (uA F (uN F p) (uN F q))) 2)) L := by
      have := Int.mul_le_mul_of_nonneg_left c3 (Int.le_of_lt hp)
      have e : P * (iv (F.vl (uS F (uA F (uN F p) (uN F q)))) L + 2 * U) = P * iv (F.vl (uS F (uA F (uN F p) (uN F q)))) L + (P * U + P * U) := by grind
      omega
    have b4 := b3.mono c5
    have e1 : ∀ u v w x : Int, P * (u - v) + P * (v + w - x) = P * (u + w - x) := fun u v w x => by grind
    rw [e1, e1] at b4
    have b5 := b4.unscale hp
    have b6 := (a1.add b5).mono c4
    rw [x1, x2]
    exact b6.cong (by rw [X3]; grind) (by rw [X4]; grind)
end Go.Cv
namespace Go.Cv
variable {G : Nat → Option (List AV)} {T : Tbl} {g : Nat}
theorem conv_mode (J : Al G T g) (hP : HasK g T) (F : Fm) {md : Int} (hm : 1 ≤ md ∧ md ≤ 5) : run G T 404 [.int .u8 F.u, .int .u8 md] = some (.int .i64 0) := by
  rw [run_k G T hP.conv_mode]
  have o1 := round_Over J F hm (neg := false)
  repeat' (first | (simp (maxSteps := 9^7) only [seval, exC, c_conv_mode, o1]) | (simp (maxSteps := 9^7) (disch := first | with_reducible assumption | omega) only [dxB]) | (simp only [kdB]; split) | (simp only [kvB]; split))
theorem conv_open (J : Al G T g) (hP : HasK g T) (F : Fm) {md : Int} (hm : 1 ≤ md ∧ md ≤ 5) {w : Nat} (hw : w < 2 * F.sg) : run G T 399 [.int .u8 F.u, .int .u8 md, .int .u64 (w : Int)] = some (.tup [.int .u8 (F.cls w), .bool (F.ng w), .int .i64 0]) := by
  rw [run_k G T hP.conv_open]
  have o1 := conv_mode J hP F hm
  have c1 := word_Class J F hw
  have s1 := word_Split J F hw
  generalize F.cls w = c at *
  generalize F.ng w = n at *
  generalize F.ex w = x at *
  generalize F.fc w = y at *
  simp only [fldA] at *
  repeat' (first | (simp (maxSteps := 9^7) only [seval, exC, c_conv_open, o1, c1, s1]) | (simp (maxSteps := 9^7) (disch := first | with_reducible assumption | omega) only [dxB]) | (simp only [kdB]; split) | (simp only [kvB]; split))
theorem dyad_Shift (J : Al G T g) (hP : HasK g T) {z : Bool} {d : Dy} (nz : Nz d) (hd : Bd d 8192) {n : Int} (hn : -8192 ≤ n ∧ n ≤ 8192) : ∃ z', run G T 400 [DyA z d, .int .i64 n] = some (.tup [DyA z' (shD d n), .int .i64 0]) := by
  rw [run_k G T hP.dyad_Shift]
  have m1 := dyad_May J d.n z (Dg_dl d.m) d.e
  rw [mayD_nzb nz (hd.mono (by decide))] at m1
  have hl := dl_len_blen d.m
  obtain ⟨b1, b2, b3⟩ := hd
  unfold shD
  by_cases h0 : d.m = 0
  · rw [if_pos h0]
    have hd0 := nz.1 h0
    refine ⟨true, ?_⟩
    have l0 : ((dl d.m).length : Int) = 0 := by rw [h0, dl_zero]; rfl
    rw [hd0] at m1 l0 ⊢
    simp only [DyA, A3, dl_zero] at *
    repeat' (first | (simp (maxSteps := 9^7) only [seval, exC, c_dyad_Shift, m1, l0, D_nil]) | (simp (maxSteps := 9^7) (disch := first | with_reducible assumption | omega) only [dxB]) | (simp only [kdB]; split) | (simp only [kvB]; split))
  · rw [if_neg h0]
    have l0 : ¬ ((dl d.m).length : Int) = 0 := by
      have : (dl d.m).length ≠ 0 := fun q => h0 (by have := dl_len0 (a := d.m); first | exact this.1 q | (rw [List.length_eq_zero_iff] at q; have := val_dl d.m; rw [q] at this; exact this.symm))
      omega
    obtain ⟨z', o1⟩ := dyad_own J (n := d.n) (z := z) (l := dl d.m) (e := d.e) (by omega)
    refine ⟨z', ?_⟩
    have w1 : IntKind.i64.wrap (16777216 - d.e) = 16777216 - d.e := wrap_i64 (by omega)
    have w2 : IntKind.i64.wrap (-16777216 - d.e) = -16777216 - d.e := wrap_i64 (by omega)
    have w3 : IntKind.i64.wrap (d.e + n) = d.e + n := wrap_i64 (by omega)
    have t1 : ¬ 16777216 - d.e < n := by omega
    have t2 : ¬ n < -16777216 - d.e := by omega
    simp only [DyA, A3] at *
    repeat' (first | (simp (maxSteps := 9^7) only [seval, exC, c_dyad_Shift, m1, l0, w1, w2, w3, t1, t2, o1]) | (simp (maxSteps := 9^7) (disch := first | with_reducible assumption | omega) only [dxB]) | (simp only [kdB]; split) | (simp only [kvB]; split))
theorem Bd_vl2 (F : Fm) (w : Nat) : Bd (F.vl w) 2048 := by
  by_cases h1 : (F.vl w).m = 0
  · rw [(Nz_vl F w).1 h1]; exact ⟨by simp only [blen_zero]; omega, by simp, by simp⟩
  · have hF := fm_facts F
    have fa : F.fin w := by
      by_cases h : F.fin w
      · exact h
      · exfalso; apply h1; unfold Fm.vl; rw [if_neg h]
    have e1 := fits_val F fa (by rw [← vl_val fa]; exact h1)
    rw [← vl_val fa] at e1
    obtain ⟨_, a1, a2, a3⟩ := e1
    exact ⟨by omega, by omega, by omega⟩
theorem Bd_shn {d : Dy} {K : Nat} (h : Bd d K) {n : Int} (hn : -(K : Int) ≤ n ∧ n ≤ K) : Bd (shD d n) (2 * K) := by
  obtain ⟨h1, h2, h3⟩ := h
  unfold shD
  split
  · exact ⟨by omega, by omega, by omega⟩
  · exact ⟨by simp only; omega, by simp only; omega, by simp only; omega⟩
theorem conv_Scale (J : Al G T g) (hP : HasK g T) (F : Fm) {md : Int} (hm : 1 ≤ md ∧ md ≤ 5) {w : Nat} (hw : w < 2 * F.sg) {n : Int} (hn : -2048 ≤ n ∧ n ≤ 2048) : run G T 393 [.int .u8 F.u, .int .u8 md, .int .u64 (w : Int), .int .i64 n] = some (.tup [.int .u64 ((scaW F md w n).1 : Int), .int .u8 ((scaW F md w n).2 : Int), .int .i64 0]) := by
  rw [run_k G T hP.conv_Scale]
  have o1 := conv_open J hP F hm hw
  unfold scaW
  by_cases h5 : F.cls w = 5
  · rw [if_pos h5]
    rw [h5] at o1
    have n1 := word_None J F
    generalize F.ng w = x at *
    generalize F.nan = y at *
    simp only [cast0]
    repeat' (first | (simp (maxSteps := 9^7) only [seval, exC, c_conv_Scale, o1, n1]) | (simp (maxSteps := 9^7) (disch := first | with_reducible assumption | omega) only [dxB]) | (simp only [kdB]; split) | (simp only [kvB]; split))
  · rw [if_neg h5]
    by_cases h4 : F.cls w = 4 ∨ F.cls w = 1
    · rw [if_pos h4]
      generalize F.ng w = x at *
      generalize F.cls w = c at *
      simp only [cast0]
      by_cases c4 : c = 4
      · repeat' (first | (simp (maxSteps := 9^7) only [seval, exC, c_conv_Scale, o1, h5, c4]) | (simp (maxSteps := 9^7) (disch := first | with_reducible assumption | omega) only [dxB]) | (simp only [kdB]; split) | (simp only [kvB]; split))
      · have c1 : c = 1 := by omega
        repeat' (first | (simp (maxSteps := 9^7) only [seval, exC, c_conv_Scale, o1, h5, c4, c1]) | (simp (maxSteps := 9^7) (disch := first | with_reducible assumption | omega) only [dxB]) | (simp only [kdB]; split) | (simp only [kvB]; split))
    · rw [if_neg h4]
      obtain ⟨z, k, v1⟩ := word_Value J F hw
      obtain ⟨z2, s1⟩ := dyad_Shift J hP (z := z) (d := F.vl w) (Nz_vl F w) ((Bd_vl2 F w).mono (by decide)) (n := n) (by omega)
      have r1 := round_Round J F hm (z := z2) (mayD_nzb (Nz_sh (Nz_vl F w) n) ((Bd_shn (Bd_vl2 F w) (n := n) (by omega)).mono (by decide)))
      have m1 : max (-16384) n = n := by omega
      have m2 : min 16384 n = n := by omega
      generalize rndW F md (shD (F.vl w) n) = R at *
      generalize shD (F.vl w) n = d at *
      generalize F.vl w = e at *
      generalize F.ng w = x at *
      generalize F.cls w = c at *
      have c4 : ¬ c = 4 := fun h => h4 (Or.inl h)
      have c1 : ¬ c = 1 := fun h => h4 (Or.inr h)
      simp only [DyA, A3] at *
      repeat' (first | (simp (maxSteps := 9^7) only [seval, exC, c_conv_Scale, o1, h5, c4, c1, v1, m1, m2, s1, r1]) | (simp (maxSteps := 9^7) (disch := first | with_reducible assumption | omega) only [dxB]) | (simp only [kdB]; split) | (simp only [kvB]; split))
end Go.Cv
namespace Go.Cv
variable {G : Nat → Option (List AV)} {T : Tbl} {g : Nat}
section
variable {α : Type} (bs L : List α) (v : α)
theorem ga0 : (bs ++ L)[bs.length]? = L[0]? := by rw [List.getElem?_append_right (Nat.le_refl _), Nat.sub_self]
theorem ga1 : (bs ++ L)[bs.length + 1]? = L[1]? := by rw [List.getElem?_append_right (Nat.le_add_right ..), Nat.add_sub_cancel_left]
theorem ga2 : (bs ++ L)[bs.length + 2]? = L[2]? := by rw [List.getElem?_append_right (Nat.le_add_right ..), Nat.add_sub_cancel_left]
theorem ga3 : (bs ++ L)[bs.length + 3]? = L[3]? := by rw [List.getElem?_append_right (Nat.le_add_right ..), Nat.add_sub_cancel_left]
theorem ga4 : (bs ++ L)[bs.length + 4]? = L[4]? := by rw [List.getElem?_append_right (Nat.le_add_right ..), Nat.add_sub_cancel_left]
theorem gs0 : (bs ++ L).set bs.length v = bs ++ L.set 0 v := by rw [List.set_append_right _ _ (Nat.le_refl _), Nat.sub_self]
theorem gs1 : (bs ++ L).set (bs.length + 1) v = bs ++ L.set 1 v := by rw [List.set_append_right _ _ (Nat.le_add_right ..), Nat.add_sub_cancel_left]
theorem gs2 : (bs ++ L).set (bs.length + 2) v = bs ++ L.set 2 v := by rw [List.set_append_right _ _ (Nat.le_add_right ..), Nat.add_sub_cancel_left]
theorem gs3 : (bs ++ L).set (bs.length + 3) v = bs ++ L.set 3 v := by rw [List.set_append_right _ _ (Nat.le_add_right ..), Nat.add_sub_cancel_left]
theorem gs4 : (bs ++ L).set (bs.length + 4) v = bs ++ L.set 4 v := by rw [List.set_append_right _ _ (Nat.le_add_right ..), Nat.add_sub_cancel_left]
theorem gap (K : List α) : bs ++ L ++ K = bs ++ (L ++ K) := List.append_assoc ..
theorem gal : (bs ++ L).length = bs.length + L.length := List.length_append
end
theorem gaB {α : Type} : type_of% (And.intro (And.intro (And.intro (@ga0 α) (And.intro (@ga1 α) (@ga2 α))) (And.intro (@ga3 α) (@ga4 α))) (And.intro (And.intro (@gs0 α) (And.intro (@gs1 α) (@gs2 α))) (And.intro (And.intro (@gs3 α) (@gs4 α)) (And.intro (@gap α) (@gal α))))) := And.intro (And.intro (And.intro (@ga0 α) (And.intro (@ga1 α) (@ga2 α))) (And.intro (@ga3 α) (@ga4 α))) (And.intro (And.intro (@gs0 α) (And.intro (@gs1 α) (@gs2 α))) (And.intro (And.intro (@gs3 α) (@gs4 α)) (And.intro (@gap α) (@gal α))))
theorem zcells_len : ∀ l : List (Nat × Nat), (zcells l).length = l.length * 2
  | [] => rfl
  | p :: l => by rw [zcells, List.length_cons, List.length_cons, List.length_cons, zcells_len l]; omega
def zc (l : List (Nat × Nat)) (i : Nat) : Nat × Nat := l.getD i (0, 0)
theorem zc_eq {l : List (Nat × Nat)} {i : Nat} (h : i < l.length) : zc l i = l[i] := by unfold zc; rw [List.getD_eq_getElem?_getD, List.getElem?_eq_getElem h]; rfl
theorem zc_mem {l : List (Nat × Nat)} {i : Nat} (h : i < l.length) : zc l i ∈ l := by rw [zc_eq h]; exact List.getElem_mem h
theorem drop_zc {l : List (Nat × Nat)} {i : Nat} (h : i < l.length) : l.drop i = zc l i :: l.drop (i + 1) := by rw [zc_eq h]; exact List.drop_eq_getElem_cons h
theorem zcells_drop : ∀ (l : List (Nat × Nat)) (i : Nat), (zcells l).drop (i * 2) = zcells (l.drop i)
  | l, 0 => rfl
  | [], i + 1 => by simp [zcells]
  | p :: l, i + 1 => by
    rw [zcells, List.drop_succ_cons, ← zcells_drop l i, show (i + 1) * 2 = i * 2 + 1 + 1 by omega, List.drop_succ_cons, List.drop_succ_cons]
theorem zcells_two {l : List (Nat × Nat)} {i : Nat} (h : i < l.length) : ((zcells l).drop (i * 2)).take 2 = [.int .u64 ((zc l i).1 : Int), .int .u64 ((zc l i).2 : Int)] := by
  rw [zcells_drop, drop_zc h]; rfl
theorem ZL_ne {z : Bool} {l : List (Nat × Nat)} (h : l ≠ []) : ZL z l = .imm l.length (zcells l) := by unfold ZL; rw [if_neg (fun q => h q.2)]
theorem lenA_Z (z : Bool) (l : List (Nat × Nat)) : lenA (ZL z l) = some l.length := by
  unfold ZL
  split
  · next h => rw [h.2]; rfl
  · rfl
theorem sn_Z (g : Nat → Nat → Nat → Nat → Option AV) (z : Bool) (l : List (Nat × Nat)) : snapA g (ZL z l) = some (ZL z l) := by
  unfold ZL
  split
  · exact sn_nil g
  · exact sn_imm g _ _
theorem iaddr_Z {z : Bool} {l : List (Nat × Nat)} {k : IntKind} {j : Int} (h : 0 ≤ j ∧ j.toNat < l.length) : iaddrV 2 (ZL z l) (.int k j) = some (.iptr (zcells l) (j.toNat * 2)) := by
  rw [ZL_ne (by rintro rfl; exact absurd h.2 (Nat.not_lt_zero _)), iaddrV, if_pos ⟨h.1, by omega, by decide, zcells_len l⟩]
theorem rd_Z (m : Mem) {l : List (Nat × Nat)} {i : Nat} (h : i < l.length) : rdAt G m 2 (.iptr (zcells l) (i * 2)) = some [.int .u64 ((zc l i).1 : Int), .int .u64 ((zc l i).2 : Int)] := by
  rw [rdAt, if_pos (by rw [zcells_len]; omega), zcells_two h]
theorem rd_Z0 (m : Mem) {l : List (Nat × Nat)} {i : Nat} (h : i < l.length) : rdAt G m 1 (.iptr (zcells l) (i * 2 + 0)) = some [.int .u64 ((zc l i).1 : Int)] := by
  rw [rdAt, if_pos (by rw [zcells_len]; omega), Nat.add_zero, zcells_drop, drop_zc h]; rfl
theorem rd_Z1 (m : Mem) {l : List (Nat × Nat)} {i : Nat} (h : i < l.length) : rdAt G m 1 (.iptr (zcells l) (i * 2 + 1)) = some [.int .u64 ((zc l i).2 : Int)] := by
  rw [rdAt, if_pos (by rw [zcells_len]; omega), ← List.drop_drop, zcells_drop, drop_zc h]; rfl
theorem okc_Z (z : Bool) (l : List (Nat × Nat)) : okCell (ZL z l) = true := by unfold ZL; split <;> rfl
theorem ca_Z (z : Bool) (l : List (Nat × Nat)) : cellsA (ZL z l) = [ZL z l] := by unfold ZL; split <;> rfl
theorem rl_Z (gg : Nat → List Nat) (z : Bool) (m : List (Nat × Nat)) (l : List AV) : reachL gg (ZL z m :: l) = reachL gg l := by
  unfold ZL
  split
  · exact rl_anil gg l
  · exact rl_imm gg _ _ l
theorem frz_Z (h : Mem) (r : AV) (z : Bool) (m : List (Nat × Nat)) (args : List AV) : frz h r (ZL z m :: args) = frz h r args := by
  unfold ZL
  split
  · exact frz_anil h r args
  · exact frz_imm h r _ _ args
theorem ZB : type_of% (And.intro (And.intro @lenA_Z @sn_Z) (And.intro (And.intro @okc_Z @ca_Z) (And.intro @rl_Z @frz_Z))) := And.intro (And.intro @lenA_Z @sn_Z) (And.intro (And.intro @okc_Z @ca_Z) (And.intro @rl_Z @frz_Z))
theorem po_loop (e : Env) (h : Heap) : evL G T c_poly_open_l1 e h = kS G T (evL G T c_poly_open_b1 (keepE [0, 5, 9, 27, 28, 29] e) h) c_poly_open_l1 := s_loopc G T rfl e h
theorem zcl_le {F : Fm} {a : Nat × Nat} : Zf F a ↔ zcl (F.cls a.1) (F.cls a.2) ≤ 2 := zcl_fin2 F
def W64 (l : List (Nat × Nat)) : Prop := ∀ a ∈ l, a.1 < 18446744073709551616 ∧ a.2 < 18446744073709551616
def Zws (F : Fm) (l : List (Nat × Nat)) : Prop := ∀ a ∈ l, Zw F a
def Zfs (F : Fm) (l : List (Nat × Nat)) : Prop := ∀ a ∈ l, Zf F a
theorem Zws_cons {F : Fm} {a : Nat × Nat} {l : List (Nat × Nat)} : Zws F (a :: l) ↔ Zw F a ∧ Zws F l := List.forall_mem_cons
theorem Zfs_cons {F : Fm} {a : Nat × Nat} {l : List (Nat × Nat)} : Zfs F (a :: l) ↔ Zf F a ∧ Zfs F l := List.forall_mem_cons
theorem Zws_nil {F : Fm} : Zws F [] := fun _ h => by cases h
theorem Zfs_nil {F : Fm} : Zfs F [] := fun _ h => by cases h
set_option maxHeartbeats 4000000 in
theorem poly_open_loop (J : Al G T g) (hP : HasK g T) (F : Fm) {l : List (Nat × Nat)} {z : Bool} {p : AV} {B : Blk} (hl : l.length ≤ 41) (h64 : W64 l) : ∀ (m i : Nat) (fl : Bool) (bs : List Blk), i + m = l.length →
    ∃ bs' fl', (Zws F (l.drop i) ∧ (fl' = true ↔ fl = true ∧ Zfs F (l.drop i)) ∧ evL G T c_poly_open_l1 [(0, .int .u8 F.u), (5, p), (9, .bool fl), (27, ZL z l), (28, .int .i64 (l.length : Int)), (29, .int .i64 (i : Int))] ⟨B :: bs, []⟩ =
        some (.exit 0, [(0, .int .u8 F.u), (5, p), (9, .bool fl'), (27, ZL z l), (28, .int .i64 (l.length : Int)), (29, .int .i64 (l.length : Int)), (30, .bool false)], ⟨B :: bs', []⟩)) ∨
      (¬ Zws F (l.drop i) ∧ evL G T c_poly_open_l1 [(0, .int .u8 F.u), (5, p), (9, .bool fl), (27, ZL z l), (28, .int .i64 (l.length : Int)), (29, .int .i64 (i : Int))] ⟨B :: bs, []⟩ = some (.ret, [(6, .int .i64 6)], ⟨B :: bs', []⟩))
  | 0, i, fl, bs, hi => by
    have he : i = l.length := by omega
    subst he
    have hd : l.drop l.length = [] := List.drop_length
    have hn : ¬ (l.length : Int) < (l.length : Int) := by omega
    refine ⟨bs, fl, Or.inl ⟨by rw [hd]; exact Zws_nil, by rw [hd]; simp [Zfs_nil], ?_⟩⟩
    rw [po_loop]
    repeat' (first | (simp (maxSteps := 9^7) only [seval, exC, c_poly_open_b1, hn]) | (simp (maxSteps := 9^7) (disch := first | with_reducible assumption | omega) only [dxB]) | (simp only [kdB]; split) | (simp only [kvB]; split))
  | m + 1, i, fl, bs, hi => by
    have hil : i < l.length := by omega
    have hlt : (i : Int) < (l.length : Int) := by omega
    have hm := zc_mem hil
    obtain ⟨u1, u2⟩ := h64 _ hm
    have hd := drop_zc hil
    have t1 : ((i : Int)).toNat = i := Int.toNat_natCast i
    have w1 : IntKind.i64.wrap ((i : Int) + 1) = ((i + 1 : Nat) : Int) := by rw [wrap_i64 (by omega)]; rfl
    have ia := iaddr_Z (z := z) (l := l) (k := .i64) (j := (i : Int)) ⟨by omega, by omega⟩
    rw [t1] at ia
    have rd := fun mm => rd_Z (G := G) mm hil
    rw [hd]
    simp only [Zws_cons, Zfs_cons]
    generalize zc l i = a at *
    obtain ⟨a, b⟩ := a
    simp only at u1 u2 rd
    by_cases hw : a < 2 * F.sg ∧ b < 2 * F.sg
    · have c1 := pair_Class J F hw.1 hw.2
      have hZ : Zw F (a, b) := hw
      have hfe : ∃ f1, (f1 = true ↔ fl = true ∧ Zf F (a, b)) ∧ ∀ h', evL G T c_poly_open_l1 [(0, .int .u8 F.u), (5, p), (9, .bool fl), (27, ZL z l), (28, .int .i64 (l.length : Int)), (29, .int .i64 (i : Int))] ⟨B :: bs, []⟩ = evL G T c_poly_open_l1 [(0, .int .u8 F.u), (5, p), (9, .bool f1), (27, ZL z l), (28, .int .i64 (l.length : Int)), (29, .int .i64 ((i + 1 : Nat) : Int))] ⟨B :: (bs ++ [⟨[.int .u64 (a : Int), .int .u64 (b : Int)], false⟩]), []⟩ ∨ h' := by
        rw [zcl_le]
        simp only
        generalize zcl (F.cls a) (F.cls b) = c at *
        simp only [zA] at *
        cases fl
        · refine ⟨false, by simp, fun h' => Or.inl ?_⟩
          rw [po_loop]
          repeat' (first | (simp (maxSteps := 9^7) only [seval, exC, c_poly_open_b1, hlt, ia, rd, gaB, ZB, c1, w1]) | (simp (maxSteps := 9^7) (disch := first | with_reducible assumption | omega) only [dxB]) | (simp only [kdB]; split) | (simp only [kvB]; split))
        · by_cases c2 : c ≤ 2
          · refine ⟨true, by simp [c2], fun h' => Or.inl ?_⟩
            rw [po_loop]
            repeat' (first | (simp (maxSteps := 9^7) only [seval, exC, c_poly_open_b1, hlt, ia, rd, gaB, ZB, c1, c2, w1]) | (simp (maxSteps := 9^7) (disch := first | with_reducible assumption | omega) only [dxB]) | (simp only [kdB]; split) | (simp only [kvB]; split))
          · refine ⟨false, by simp [c2], fun h' => Or.inl ?_⟩
            rw [po_loop]
            repeat' (first | (simp (maxSteps := 9^7) only [seval, exC, c_poly_open_b1, hlt, ia, rd, gaB, ZB, c1, c2, w1]) | (simp (maxSteps := 9^7) (disch := first | with_reducible assumption | omega) only [dxB]) | (simp only [kdB]; split) | (simp only [kvB]; split))
      obtain ⟨f1, hf1, hev⟩ := hfe
      have hev := (hev False).resolve_right id
      obtain ⟨bs', fl', h⟩ := poly_open_loop J hP F (z := z) (p := p) (B := B) hl h64 m (i + 1) f1 (bs ++ [⟨[.int .u64 (a : Int), .int .u64 (b : Int)], false⟩]) (by omega)
      rw [← hev] at h
      refine ⟨bs', fl', h.imp (fun q => ⟨⟨hZ, q.1⟩, by rw [q.2.1, hf1, and_assoc], q.2.2⟩) (fun q => ⟨fun r => q.1 r.2, q.2⟩)⟩
    · have c1 := pair_Class_bad J F u1 u2 hw
      refine ⟨bs ++ [⟨[.int .u64 (a : Int), .int .u64 (b : Int)], false⟩], fl, Or.inr ⟨fun q => hw q.1, ?_⟩⟩
      rw [po_loop]
      simp only [zA] at *
      repeat' (first | (simp (maxSteps := 9^7) only [seval, exC, c_poly_open_b1, hlt, ia, rd, gaB, ZB, c1, w1]) | (simp (maxSteps := 9^7) (disch := first | with_reducible assumption | omega) only [dxB]) | (simp only [kdB]; split) | (simp only [kvB]; split))
end Go.Cv
namespace Go.Cv
variable {G : Nat → Option (List AV)} {T : Tbl} {g : Nat}
open Classical in
noncomputable def opC (F : Fm) (l : List (Nat × Nat)) (p : Nat × Nat) : Int := if 41 < l.length then 3 else if Zws F l ∧ Zw F p then (if Zfs F l ∧ Zf F p then 0 else 7) else 6
open Classical in
theorem opC_long {F : Fm} {l : List (Nat × Nat)} {p : Nat × Nat} (h : 41 < l.length) : opC F l p = 3 := if_pos h
open Classical in
theorem opC_word {F : Fm} {l : List (Nat × Nat)} {p : Nat × Nat} (h : ¬ 41 < l.length) (hw : ¬ (Zws F l ∧ Zw F p)) : opC F l p = 6 := by unfold opC; rw [if_neg h, if_neg hw]
open Classical in
theorem opC_none {F : Fm} {l : List (Nat × Nat)} {p : Nat × Nat} (h : ¬ 41 < l.length) (hw : Zws F l ∧ Zw F p) (hf : ¬ (Zfs F l ∧ Zf F p)) : opC F l p = 7 := by unfold opC; rw [if_neg h, if_pos hw, if_neg hf]
open Classical in
theorem opC_ok {F : Fm} {l : List (Nat × Nat)} {p : Nat × Nat} (h : ¬ 41 < l.length) (hw : Zws F l ∧ Zw F p) (hf : Zfs F l ∧ Zf F p) : opC F l p = 0 := by unfold opC; rw [if_neg h, if_pos hw, if_pos hf]
set_option maxHeartbeats 4000000 in
theorem poly_open (J : Al G T g) (hP : HasK g T) (F : Fm) {l : List (Nat × Nat)} {z : Bool} {a b : Nat} (h64 : W64 l) (ha : a < 18446744073709551616) (hb : b < 18446744073709551616) :
    run G T 375 [.int .u8 F.u, ZL z l, zA a b] = some (.int .i64 (opC F l (a, b))) := by
  rw [run_k G T hP.poly_open]
  have n1 := word_None J F
  by_cases hl : 41 < l.length
  · rw [opC_long hl]
    have hl' : 41 < (l.length : Int) := by omega
    simp only [zA]
    generalize F.nan = x at *
    repeat' (first | (simp (maxSteps := 9^7) only [seval, exC, c_poly_open, ZB, n1, hl']) | (simp (maxSteps := 9^7) (disch := first | with_reducible assumption | omega) only [dxB]) | (simp only [kdB]; split) | (simp only [kvB]; split))
  · have hl' : ¬ 41 < (l.length : Int) := by omega
    obtain ⟨bs', fl', h⟩ := poly_open_loop J hP F (z := z) (p := .ptr 0 0) (B := ⟨[.int .u64 (a : Int), .int .u64 (b : Int)], false⟩) (l := l) (by omega) h64 l.length 0 true [] (by omega)
    rw [List.drop_zero] at h
    generalize F.nan = x at *
    rcases h with ⟨h1, h2, h3⟩ | ⟨h1, h3⟩
    · by_cases hp : a < 2 * F.sg ∧ b < 2 * F.sg
      · have c1 := pair_Class J F hp.1 hp.2
        have zl := zcl_le (F := F) (a := (a, b))
        simp only at zl
        by_cases hf : Zfs F l ∧ Zf F (a, b)
        · rw [opC_ok (p := (a, b)) hl ⟨h1, hp⟩ hf]
          have f1 : fl' = true := h2.2 ⟨rfl, hf.1⟩
          subst f1
          have c2 := zl.1 hf.2
          generalize zcl (F.cls a) (F.cls b) = c at *
          simp only [zA, cast0] at *
          repeat' (first | (simp (maxSteps := 9^7) only [seval, exC, c_poly_open, ZB, n1, hl', h3, c1, c2]) | (simp (maxSteps := 9^7) (disch := first | with_reducible assumption | omega) only [dxB]) | (simp only [kdB]; split) | (simp only [kvB]; split))
        · rw [opC_none (p := (a, b)) hl ⟨h1, hp⟩ hf]
          have fc : fl' = false ∨ (fl' = true ∧ ¬ zcl (F.cls a) (F.cls b) ≤ 2) := by
            cases fl' with
            | false => exact Or.inl rfl
            | true => exact Or.inr ⟨rfl, fun q => hf ⟨(h2.1 rfl).2, zl.2 q⟩⟩
          generalize zcl (F.cls a) (F.cls b) = c at *
          simp only [zA, cast0] at *
          rcases fc with rfl | ⟨rfl, c2⟩
          · repeat' (first | (simp (maxSteps := 9^7) only [seval, exC, c_poly_open, ZB, n1, hl', h3, c1]) | (simp (maxSteps := 9^7) (disch := first | with_reducible assumption | omega) only [dxB]) | (simp only [kdB]; split) | (simp only [kvB]; split))
          · repeat' (first | (simp (maxSteps := 9^7) only [seval, exC, c_poly_open, ZB, n1, hl', h3, c1, c2]) | (simp (maxSteps := 9^7) (disch := first | with_reducible assumption | omega) only [dxB]) | (simp only [kdB]; split) | (simp only [kvB]; split))
      · rw [opC_word (p := (a, b)) hl (fun q => hp q.2)]
        have c1 := pair_Class_bad J F ha hb hp
        simp only [zA, cast0] at *
        repeat' (first | (simp (maxSteps := 9^7) only [seval, exC, c_poly_open, ZB, n1, hl', h3, c1]) | (simp (maxSteps := 9^7) (disch := first | with_reducible assumption | omega) only [dxB]) | (simp only [kdB]; split) | (simp only [kvB]; split))
    · rw [opC_word (p := (a, b)) hl (fun q => h1 q.1)]
      simp only [zA, cast0] at *
      repeat' (first | (simp (maxSteps := 9^7) only [seval, exC, c_poly_open, ZB, n1, hl', h3]) | (simp (maxSteps := 9^7) (disch := first | with_reducible assumption | omega) only [dxB]) | (simp only [kdB]; split) | (simp only [kvB]; split))
theorem zgd_loop (J : Al G T g) (F : Fm) {l : List (Nat × Nat)} {z : Bool} {h : Heap} (hl : l.length ≤ 4611686018427387904) (h64 : W64 l) : ∀ (m i : Nat), i + m = l.length →
    (Zws F (l.drop i) ∧ ∃ e, evL G T c_ref10_Good_l1 [(0, .int .u8 F.u), (1, ZL z l), (5, .int .i64 (i : Int))] h = some (.exit 0, e, h)) ∨ (¬ Zws F (l.drop i) ∧ evL G T c_ref10_Good_l1 [(0, .int .u8 F.u), (1, ZL z l), (5, .int .i64 (i : Int))] h = some (.ret, [(4, .int .i64 6)], h))
  | 0, i, hi => by
    have he : i = l.length := by omega
    subst he
    refine Or.inl ⟨by rw [List.drop_length]; exact Zws_nil, ?_⟩
    have hn : ¬ (l.length : Int) < (l.length : Int) := by omega
    rw [gd_loop]
    repeat' (first | (simp (maxSteps := 9^7) only [seval, exC, c_ref10_Good_b1, ZB, hn]) | (simp (maxSteps := 9^7) (disch := first | with_reducible assumption | omega) only [dxB]) | (simp only [kdB]; split) | (simp only [kvB]; split))
    exact ⟨_, rfl⟩
  | m + 1, i, hi => by
    have hil : i < l.length := by omega
    have hlt : (i : Int) < (l.length : Int) := by omega
    obtain ⟨u1, u2⟩ := h64 _ (zc_mem hil)
    have t1 : ((i : Int)).toNat = i := Int.toNat_natCast i
    have w1 : IntKind.i64.wrap ((i : Int) + 1) = ((i + 1 : Nat) : Int) := by rw [wrap_i64 (by omega)]; rfl
    have ia := iaddr_Z (z := z) (l := l) (k := .i64) (j := (i : Int)) ⟨by omega, by omega⟩
    rw [t1] at ia
    have rd0 := fun mm => rd_Z0 (G := G) mm hil
    have rd1 := fun mm => rd_Z1 (G := G) mm hil
    rw [drop_zc hil, Zws_cons]
    have g1 := ref03_Good J F u1
    have g2 := ref03_Good J F u2
    have ih := zgd_loop J F (z := z) (h := h) hl h64 m (i + 1) (by omega)
    rw [gd_loop]
    unfold Zw
    generalize zc l i = a at *
    by_cases k1 : a.1 < 2 * F.sg
    · rw [if_pos k1] at g1
      by_cases k2 : a.2 < 2 * F.sg
      · rw [if_pos k2] at g2
        rcases ih with ⟨q1, e, q2⟩ | ⟨q1, q2⟩
        · refine Or.inl ⟨⟨⟨k1, k2⟩, q1⟩, e, ?_⟩
          repeat' (first | (simp (maxSteps := 9^7) only [seval, exC, c_ref10_Good_b1, ZB, hlt, ia, fa_i, rd0, rd1, g1, g2, w1, q2]) | (simp (maxSteps := 9^7) (disch := first | with_reducible assumption | omega) only [dxB]) | (simp only [kdB]; split) | (simp only [kvB]; split))
        · refine Or.inr ⟨fun q => q1 q.2, ?_⟩
          repeat' (first | (simp (maxSteps := 9^7) only [seval, exC, c_ref10_Good_b1, ZB, hlt, ia, fa_i, rd0, rd1, g1, g2, w1, q2]) | (simp (maxSteps := 9^7) (disch := first | with_reducible assumption | omega) only [dxB]) | (simp only [kdB]; split) | (simp only [kvB]; split))
      · rw [if_neg k2] at g2
        refine Or.inr ⟨fun q => k2 q.1.2, ?_⟩
        repeat' (first | (simp (maxSteps := 9^7) only [seval, exC, c_ref10_Good_b1, ZB, hlt, ia, fa_i, rd0, rd1, g1, g2]) | (simp (maxSteps := 9^7) (disch := first | with_reducible assumption | omega) only [dxB]) | (simp only [kdB]; split) | (simp only [kvB]; split))
    · rw [if_neg k1] at g1
      refine Or.inr ⟨fun q => k1 q.1.1, ?_⟩
      repeat' (first | (simp (maxSteps := 9^7) only [seval, exC, c_ref10_Good_b1, ZB, hlt, ia, fa_i, rd0, rd1, g1]) | (simp (maxSteps := 9^7) (disch := first | with_reducible assumption | omega) only [dxB]) | (simp only [kdB]; split) | (simp only [kvB]; split))
open Classical in
theorem ref10_GoodZ (J : Al G T g) (F : Fm) {l : List (Nat × Nat)} {z : Bool} (hl : l.length ≤ 4611686018427387904) (h64 : W64 l) : run G T 185 [.int .u8 F.u, ZL z l] = some (.int .i64 (if Zws F l then 0 else 6)) := by
  rw [run_k G T J.U.ref10_Good]
  have h1 := ref03_IsF J F
  have h := zgd_loop J F (z := z) (h := ⟨[], []⟩) hl h64 l.length 0 (by omega)
  rw [List.drop_zero, cast0] at h
  rcases h with ⟨q1, e, q2⟩ | ⟨q1, q2⟩
  · rw [if_pos q1]
    repeat' (first | (simp (maxSteps := 9^7) only [seval, exC, c_ref10_Good, h1, q2]) | (simp (maxSteps := 9^7) (disch := first | with_reducible assumption | omega) only [dxB]) | (simp only [kdB]; split) | (simp only [kvB]; split))
  · rw [if_neg q1]
    repeat' (first | (simp (maxSteps := 9^7) only [seval, exC, c_ref10_Good, h1, q2]) | (simp (maxSteps := 9^7) (disch := first | with_reducible assumption | omega) only [dxB]) | (simp only [kdB]; split) | (simp only [kvB]; split))
theorem ro_loop (e : Env) (h : Heap) : evL G T c_ref27_Opens_l1 e h = kS G T (evL G T c_ref27_Opens_b1 (keepE [0, 1, 5, 8] e) h) c_ref27_Opens_l1 := s_loopc G T rfl e h
theorem ref27_Opens_loop (J : Al G T g) (F : Fm) {l : List (Nat × Nat)} {z : Bool} {p : AV} {h : Heap} (hl : l.length ≤ 41) (hw : Zws F l) : ∀ (m i : Nat), i + m = l.length →
    (Zfs F (l.drop i) ∧ evL G T c_ref27_Opens_l1 [(0, .int .u8 F.u), (1, ZL z l), (5, p), (8, .int .i64 (i : Int))] h = some (.exit 0, [(0, .int .u8 F.u), (1, ZL z l), (5, p), (8, .int .i64 (l.length : Int)), (30, .bool false)], h)) ∨ (¬ Zfs F (l.drop i) ∧ evL G T c_ref27_Opens_l1 [(0, .int .u8 F.u), (1, ZL z l), (5, p), (8, .int .i64 (i : Int))] h = some (.ret, [(6, .int .i64 7)], h))
  | 0, i, hi => by
    have he : i = l.length := by omega
    subst he
    refine Or.inl ⟨by rw [List.drop_length]; exact Zfs_nil, ?_⟩
    have hn : ¬ (l.length : Int) < (l.length : Int) := by omega
    rw [ro_loop]
    repeat' (first | (simp (maxSteps := 9^7) only [seval, exC, c_ref27_Opens_b1, ZB, hn]) | (simp (maxSteps := 9^7) (disch := first | with_reducible assumption | omega) only [dxB]) | (simp only [kdB]; split) | (simp only [kvB]; split))
  | m + 1, i, hi => by
    have hil : i < l.length := by omega
    have hlt : (i : Int) < (l.length : Int) := by omega
    obtain ⟨u1, u2⟩ := hw _ (zc_mem hil)
    have t1 : ((i : Int)).toNat = i := Int.toNat_natCast i
    have w1 : IntKind.i64.wrap ((i : Int) + 1) = ((i + 1 : Nat) : Int) := by rw [wrap_i64 (by omega)]; rfl
    have ia := iaddr_Z (z := z) (l := l) (k := .i64) (j := (i : Int)) ⟨by omega, by omega⟩
    rw [t1] at ia
    have rd := fun mm => rd_Z (G := G) mm hil
    rw [drop_zc hil, Zfs_cons]
    have f1 := ref10_Finite J F u1 u2
    have ih := ref27_Opens_loop J F (z := z) (p := p) (h := h) hl hw m (i + 1) (by omega)
    rw [ro_loop]
    unfold Zf
    generalize zc l i = a at *
    simp only [zA] at *
    by_cases k1 : F.fin a.1 ∧ F.fin a.2
    · rw [decide_eq_true k1] at f1
      rcases ih with ⟨q1, q2⟩ | ⟨q1, q2⟩
      · refine Or.inl ⟨⟨k1, q1⟩, ?_⟩
        repeat' (first | (simp (maxSteps := 9^7) only [seval, exC, c_ref27_Opens_b1, ZB, hlt, ia, rd, f1, w1, q2]) | (simp (maxSteps := 9^7) (disch := first | with_reducible assumption | omega) only [dxB]) | (simp only [kdB]; split) | (simp only [kvB]; split))
      · refine Or.inr ⟨fun q => q1 q.2, ?_⟩
        repeat' (first | (simp (maxSteps := 9^7) only [seval, exC, c_ref27_Opens_b1, ZB, hlt, ia, rd, f1, w1, q2]) | (simp (maxSteps := 9^7) (disch := first | with_reducible assumption | omega) only [dxB]) | (simp only [kdB]; split) | (simp only [kvB]; split))
    · rw [decide_eq_false k1] at f1
      refine Or.inr ⟨fun q => k1 q.1, ?_⟩
      repeat' (first | (simp (maxSteps := 9^7) only [seval, exC, c_ref27_Opens_b1, ZB, hlt, ia, rd, f1]) | (simp (maxSteps := 9^7) (disch := first | with_reducible assumption | omega) only [dxB]) | (simp only [kdB]; split) | (simp only [kvB]; split))
set_option maxHeartbeats 4000000 in
theorem ref27_Opens (J : Al G T g) (hP : HasK g T) (F : Fm) {l : List (Nat × Nat)} {z : Bool} {a b : Nat} (h64 : W64 l) (ha : a < 18446744073709551616) (hb : b < 18446744073709551616) :
    run G T 344 [.int .u8 F.u, ZL z l, zA a b] = some (.int .i64 (opC F l (a, b))) := by
  rw [run_k G T hP.ref27_Opens]
  have h1 := ref03_IsF J F
  by_cases hl : 41 < l.length
  · rw [opC_long hl]
    have hl' : 41 < (l.length : Int) := by omega
    simp only [zA]
    repeat' (first | (simp (maxSteps := 9^7) only [seval, exC, c_ref27_Opens, ZB, h1, hl']) | (simp (maxSteps := 9^7) (disch := first | with_reducible assumption | omega) only [dxB]) | (simp only [kdB]; split) | (simp only [kvB]; split))
  · have hl' : ¬ 41 < (l.length : Int) := by omega
    have g1 := ref10_GoodZ J F (z := z) (l := l) (by omega) h64
    have g2 := ref10_Good1 J F ha hb
    by_cases hw : Zws F l
    · rw [if_pos hw] at g1
      by_cases hp : a < 2 * F.sg ∧ b < 2 * F.sg
      · rw [if_pos hp] at g2
        have f2 := ref10_Finite J F hp.1 hp.2
        have ih := ref27_Opens_loop J F (z := z) (p := .ptr 0 0) (h := ⟨[⟨[.int .u64 (a : Int), .int .u64 (b : Int)], false⟩, ⟨[.int .u64 (a : Int), .int .u64 (b : Int)], false⟩], fz1 (.int .i64 0) [1]⟩) (l := l) (by omega) hw l.length 0 (by omega)
        rw [List.drop_zero, cast0] at ih
        rcases ih with ⟨q1, q2⟩ | ⟨q1, q2⟩
        · by_cases hf : F.fin a ∧ F.fin b
          · rw [opC_ok (p := (a, b)) hl ⟨hw, hp⟩ ⟨q1, hf⟩]
            rw [decide_eq_true hf] at f2
            simp only [zA] at *
            repeat' (first | (simp (maxSteps := 9^7) only [seval, exC, c_ref27_Opens, ZB, h1, hl', g1, g2, st_bs2, q2, f2]) | (simp (maxSteps := 9^7) (disch := first | with_reducible assumption | omega) only [dxB]) | (simp only [kdB]; split) | (simp only [kvB]; split))
          · rw [opC_none (p := (a, b)) hl ⟨hw, hp⟩ (fun q => hf q.2)]
            rw [decide_eq_false hf] at f2
            simp only [zA] at *
            repeat' (first | (simp (maxSteps := 9^7) only [seval, exC, c_ref27_Opens, ZB, h1, hl', g1, g2, st_bs2, q2, f2]) | (simp (maxSteps := 9^7) (disch := first | with_reducible assumption | omega) only [dxB]) | (simp only [kdB]; split) | (simp only [kvB]; split))
        · rw [opC_none (p := (a, b)) hl ⟨hw, hp⟩ (fun q => q1 q.1)]
          simp only [zA] at *
          repeat' (first | (simp (maxSteps := 9^7) only [seval, exC, c_ref27_Opens, ZB, h1, hl', g1, g2, st_bs2, q2]) | (simp (maxSteps := 9^7) (disch := first | with_reducible assumption | omega) only [dxB]) | (simp only [kdB]; split) | (simp only [kvB]; split))
      · rw [if_neg hp] at g2
        rw [opC_word (p := (a, b)) hl (fun q => hp q.2)]
        simp only [zA] at *
        repeat' (first | (simp (maxSteps := 9^7) only [seval, exC, c_ref27_Opens, ZB, h1, hl', g1, g2, st_bs2]) | (simp (maxSteps := 9^7) (disch := first | with_reducible assumption | omega) only [dxB]) | (simp only [kdB]; split) | (simp only [kvB]; split))
    · rw [if_neg hw] at g1
      rw [opC_word (p := (a, b)) hl (fun q => hw q.1)]
      simp only [zA] at *
      repeat' (first | (simp (maxSteps := 9^7) only [seval, exC, c_ref27_Opens, ZB, h1, hl', g1]) | (simp (maxSteps := 9^7) (disch := first | with_reducible assumption | omega) only [dxB]) | (simp only [kdB]; split) | (simp only [kvB]; split))
end Go.Cv
namespace Go.Cv
variable {G : Nat → Option (List AV)} {T : Tbl} {g : Nat}
theorem poly_up_abs (J : Al G T g) (hP : HasK g T) (F : Fm) {a b : Nat} (ha : a < 2 * F.sg) (hb : b < 2 * F.sg) : run G T 376 [.agg [.int .u8 F.u], zA a b] = some (.int .u64 (uN F (a, b) : Int)) := by
  rw [run_k G T hP.poly_up_abs]
  have m1 := modulus_Abs J F (md := 4) (by decide) ha hb
  unfold uN
  simp only
  generalize absZ F 4 a b = R at *
  simp only [zA] at *
  repeat' (first | (simp (maxSteps := 9^7) only [seval, exC, c_poly_up_abs, m1]) | (simp (maxSteps := 9^7) (disch := first | with_reducible assumption | omega) only [dxB]) | (simp only [kdB]; split) | (simp only [kvB]; split))
theorem poly_up_add (J : Al G T g) (hP : HasK g T) (F : Fm) {a b : Nat} (ha : a < 2 * F.sg) (hb : b < 2 * F.sg) : run G T 377 [.agg [.int .u8 F.u], .int .u64 (a : Int), .int .u64 (b : Int)] = some (.int .u64 (uA F a b : Int)) := by
  rw [run_k G T hP.poly_up_add]
  have m1 := soft_Add J F (md := 4) (by decide) ha hb
  unfold uA
  generalize addW F 4 a b = R at *
  repeat' (first | (simp (maxSteps := 9^7) only [seval, exC, c_poly_up_add, m1]) | (simp (maxSteps := 9^7) (disch := first | with_reducible assumption | omega) only [dxB]) | (simp only [kdB]; split) | (simp only [kvB]; split))
theorem poly_up_mul (J : Al G T g) (hP : HasK g T) (F : Fm) {a b : Nat} (ha : a < 2 * F.sg) (hb : b < 2 * F.sg) : run G T 378 [.agg [.int .u8 F.u], .int .u64 (a : Int), .int .u64 (b : Int)] = some (.int .u64 (uM F a b : Int)) := by
  rw [run_k G T hP.poly_up_mul]
  have m1 := soft_Mul J F (md := 4) (by decide) ha hb
  unfold uM
  generalize mulW2 F 4 a b = R at *
  repeat' (first | (simp (maxSteps := 9^7) only [seval, exC, c_poly_up_mul, m1]) | (simp (maxSteps := 9^7) (disch := first | with_reducible assumption | omega) only [dxB]) | (simp only [kdB]; split) | (simp only [kvB]; split))
theorem poly_up_units (J : Al G T g) (hP : HasK g T) (F : Fm) {w : Nat} (hw : w < 2 * F.sg) : run G T 379 [.agg [.int .u8 F.u], .int .u64 (w : Int)] = some (.int .u64 (uS F w : Int)) := by
  rw [run_k G T hP.poly_up_units]
  have hF := fm_facts F
  have m1 := conv_Scale J hP F (md := 4) (by decide) hw (n := -(F.fr + 1 : Nat)) (by omega)
  unfold uS
  generalize scaW F 4 w (-(F.fr + 1 : Nat)) = R at *
  have w1 : IntKind.i64.wrap (0 - 24) = -24 := rfl
  have w2 : IntKind.i64.wrap (0 - 53) = -53 := rfl
  cases F
  · rw [show -((Fm.s.fr + 1 : Nat) : Int) = -24 from rfl] at m1
    simp only [Fm.u] at *
    repeat' (first | (simp (maxSteps := 9^7) only [seval, exC, c_poly_up_units, w1, m1]) | (simp (maxSteps := 9^7) (disch := first | with_reducible assumption | omega) only [dxB]) | (simp only [kdB]; split) | (simp only [kvB]; split))
  · rw [show -((Fm.d.fr + 1 : Nat) : Int) = -53 from rfl] at m1
    simp only [Fm.u] at *
    repeat' (first | (simp (maxSteps := 9^7) only [seval, exC, c_poly_up_units, w2, m1]) | (simp (maxSteps := 9^7) (disch := first | with_reducible assumption | omega) only [dxB]) | (simp only [kdB]; split) | (simp only [kvB]; split))
theorem pf_loop (e : Env) (h : Heap) : evL G T c_poly_finite_l1 e h = kS G T (evL G T c_poly_finite_b1 (keepE [0, 9, 10, 11] e) h) c_poly_finite_l1 := s_loopc G T rfl e h
section
variable (x y z : AV) (k : IntKind)
theorem i1_30 : iaddrV 1 (.imm 3 [x, y, z]) (.int k 0) = some (.iptr [x, y, z] 0) := rfl
theorem i1_31 : iaddrV 1 (.imm 3 [x, y, z]) (.int k 1) = some (.iptr [x, y, z] 1) := rfl
theorem i1_32 : iaddrV 1 (.imm 3 [x, y, z]) (.int k 2) = some (.iptr [x, y, z] 2) := rfl
end
theorem cls_fin4 {F : Fm} {w : Nat} : F.fin w ↔ ¬ 4 ≤ F.cls w := by have := cls_range F w; rw [fin_iff]; omega
set_option maxHeartbeats 4000000 in
theorem poly_finite3 (J : Al G T g) (hP : HasK g T) (F : Fm) {a b c : Nat} (ha : a < 2 * F.sg) (hb : b < 2 * F.sg) (hc : c < 2 * F.sg) : run G T 380 [.int .u8 F.u, .imm 3 [.int .u64 (a : Int), .int .u64 (b : Int), .int .u64 (c : Int)]] = some (.bool (decide (F.fin a ∧ F.fin b ∧ F.fin c))) := by
  rw [run_k G T hP.poly_finite]
  have c1 := word_Class J F ha
  have c2 := word_Class J F hb
  have c3 := word_Class J F hc
  have e1 := cls_fin4 (F := F) (w := a)
  have e2 := cls_fin4 (F := F) (w := b)
  have e3 := cls_fin4 (F := F) (w := c)
  generalize F.cls a = x at *
  generalize F.cls b = y at *
  generalize F.cls c = z at *
  by_cases h1 : 4 ≤ x
  · rw [decide_eq_false (fun q => e1.1 q.1 h1)]
    repeat' (first | (simp (maxSteps := 9^7) only [seval, exC, c_poly_finite, pf_loop, c_poly_finite_b1, i1_30, i1_31, i1_32, rp_0, rp_1, rp_2, c1, h1, wr_1, wr1, wr_2, wr2, wr_3, wr3]) | (simp (maxSteps := 9^7) (disch := first | with_reducible assumption | omega) only [dxB]) | (simp only [kdB]; split) | (simp only [kvB]; split))
  · by_cases h2 : 4 ≤ y
    · rw [decide_eq_false (fun q => e2.1 q.2.1 h2)]
      repeat' (first | (simp (maxSteps := 9^7) only [seval, exC, c_poly_finite, pf_loop, c_poly_finite_b1, i1_30, i1_31, i1_32, rp_0, rp_1, rp_2, c1, h1, c2, h2, wr_1, wr1, wr_2, wr2, wr_3, wr3]) | (simp (maxSteps := 9^7) (disch := first | with_reducible assumption | omega) only [dxB]) | (simp only [kdB]; split) | (simp only [kvB]; split))
    · by_cases h3 : 4 ≤ z
      · rw [decide_eq_false (fun q => e3.1 q.2.2 h3)]
        repeat' (first | (simp (maxSteps := 9^7) only [seval, exC, c_poly_finite, pf_loop, c_poly_finite_b1, i1_30, i1_31, i1_32, rp_0, rp_1, rp_2, c1, h1, c2, h2, c3, h3, wr_1, wr1, wr_2, wr2, wr_3, wr3]) | (simp (maxSteps := 9^7) (disch := first | with_reducible assumption | omega) only [dxB]) | (simp only [kdB]; split) | (simp only [kvB]; split))
      · rw [decide_eq_true ⟨e1.2 h1, e2.2 h2, e3.2 h3⟩]
        repeat' (first | (simp (maxSteps := 9^7) only [seval, exC, c_poly_finite, pf_loop, c_poly_finite_b1, i1_30, i1_31, i1_32, rp_0, rp_1, rp_2, c1, h1, c2, h2, c3, h3, wr_1, wr1, wr_2, wr2, wr_3, wr3]) | (simp (maxSteps := 9^7) (disch := first | with_reducible assumption | omega) only [dxB]) | (simp only [kdB]; split) | (simp only [kvB]; split))
theorem pE_cons (F : Fm) (z : Nat × Nat) {l : List (Nat × Nat)} {j : Nat} (h : j + 1 < l.length) : pE F z (l.drop j) = stE F z (pE F z (l.drop (j + 1))) (zc l j) := by
  rw [drop_zc (show j < l.length by omega), drop_zc h]; rfl
theorem pv_loop (e : Env) (h : Heap) : evL G T c_poly_Eval_l1 e h = kS G T (evL G T c_poly_Eval_b1 (keepE [0, 1, 5, 6, 9, 10, 11, 12, 13] e) h) c_poly_Eval_l1 := s_loopc G T rfl e h
def zB (p : Nat × Nat) : Blk := ⟨[.int .u64 (p.1 : Int), .int .u64 (p.2 : Int)], false⟩
set_option maxHeartbeats 16000000 in
theorem poly_Eval_loop (J : Al G T g) (hP : HasK g T) (F : Fm) {l : List (Nat × Nat)} {z : Bool} {p : Nat × Nat} {B : Blk} (hl : l.length ≤ 41) (hw : Zws F l) (hp : Zw F p) : ∀ (j : Nat) (bs : List Blk), j < l.length →
    ∃ bs', evL G T c_poly_Eval_l1 [(0, .int .u8 F.u), (1, ZL z l), (5, .ptr 0 0), (6, .ptr 1 0), (9, .ptr 2 0), (10, .int .u64 (uN F p : Int)), (11, .int .u64 ((pE F p (l.drop j)).2 : Int)), (12, .ptr 3 0), (13, .int .i64 ((j : Int) - 1))]
        ⟨zB p :: B :: ⟨[.int .u8 F.u], false⟩ :: zB (pE F p (l.drop j)).1 :: bs, []⟩ =
      some (.exit 0, [(0, .int .u8 F.u), (1, ZL z l), (5, .ptr 0 0), (6, .ptr 1 0), (9, .ptr 2 0), (10, .int .u64 (uN F p : Int)), (11, .int .u64 ((pE F p l).2 : Int)), (12, .ptr 3 0), (13, .int .i64 (-1)), (45, .bool false)], ⟨zB p :: B :: ⟨[.int .u8 F.u], false⟩ :: zB (pE F p l).1 :: bs', []⟩)
  | 0, bs, _ => by
    refine ⟨bs, ?_⟩
    rw [List.drop_zero, pv_loop]
    generalize pE F p l = s at *
    generalize uN F p = r at *
    simp only [zB]
    repeat' (first | (simp (maxSteps := 9^7) only [seval, exC, c_poly_Eval_b1, cast0, Int.zero_sub]) | (simp (maxSteps := 9^7) (disch := first | with_reducible assumption | omega) only [dxB]) | (simp only [kdB]; split) | (simp only [kvB]; split))
  | j + 1, bs, hj => by
    have hjl : j < l.length := by omega
    have ih := poly_Eval_loop J hP F (z := z) (p := p) (B := B) hl hw hp j
    have wa := hw _ (zc_mem hjl)
    have ws := pE_w F p (l.drop (j + 1)) (fun a ha => hw a (List.mem_of_mem_drop ha))
    have hs := pE_cons F p hj
    rw [hs] at ih
    have wp := zM_w F (pE F p (l.drop (j + 1))).1 p
    have wq := zP_w F (zM F (pE F p (l.drop (j + 1))).1 p) (zc l j)
    have m1 := exact_Mul J F (md := 1) (by decide) ws.1.1 ws.1.2 hp.1 hp.2
    have m2 := exact_Add J F (md := 1) (by decide) wp.1 wp.2 wa.1 wa.2
    have l2 := uN_lt F p
    have u1 := poly_up_mul J hP F ws.2 l2
    have u2 := poly_up_abs J hP F wp.1 wp.2
    have u3 := poly_up_abs J hP F wq.1 wq.2
    have u4 := poly_up_add J hP F (uN_lt F (zM F (pE F p (l.drop (j + 1))).1 p)) (uN_lt F (zP F (zM F (pE F p (l.drop (j + 1))).1 p) (zc l j)))
    have l3 : uA F (uN F (zM F (pE F p (l.drop (j + 1))).1 p)) (uN F (zP F (zM F (pE F p (l.drop (j + 1))).1 p) (zc l j))) < 2 * F.sg := addW_lt F (by decide)
    have u5 := poly_up_units J hP F l3
    have l4 : uS F (uA F (uN F (zM F (pE F p (l.drop (j + 1))).1 p)) (uN F (zP F (zM F (pE F p (l.drop (j + 1))).1 p) (zc l j)))) < 2 * F.sg := scaW_lt F (by decide) l3 _
    have u6 := poly_up_add J hP F l4 (two_w F).1
    have u7 := poly_up_add J hP F (a := uM F (pE F p (l.drop (j + 1))).2 (uN F p)) (b := uA F (uS F (uA F (uN F (zM F (pE F p (l.drop (j + 1))).1 p)) (uN F (zP F (zM F (pE F p (l.drop (j + 1))).1 p) (zc l j))))) 2) (mulW_lt F (by decide)) (addW_lt F (by decide))
    have t1 : ((j : Int)).toNat = j := Int.toNat_natCast j
    have e1 : ((j + 1 : Nat) : Int) - 1 = j := by omega
    have j0 : 0 ≤ (j : Int) := by omega
    have w1 : IntKind.i64.wrap ((j : Int) - 1) = (j : Int) - 1 := wrap_i64 (by omega)
    have ia := iaddr_Z (z := z) (l := l) (k := .i64) (j := (j : Int)) ⟨by omega, by omega⟩
    rw [t1] at ia
    have rd := fun mm => rd_Z (G := G) mm hjl
    rw [e1, pv_loop]
    unfold stE at ih
    have mZ : zM F (pE F p (l.drop (j + 1))).1 p = ((mulZ F 1 (pE F p (l.drop (j + 1))).1.1 (pE F p (l.drop (j + 1))).1.2 p.1 p.2).1.1, (mulZ F 1 (pE F p (l.drop (j + 1))).1.1 (pE F p (l.drop (j + 1))).1.2 p.1 p.2).2.1) := rfl
    generalize mulZ F 1 (pE F p (l.drop (j + 1))).1.1 (pE F p (l.drop (j + 1))).1.2 p.1 p.2 = M at *
    have mP : zP F (zM F (pE F p (l.drop (j + 1))).1 p) (zc l j) = ((addW F 1 (zM F (pE F p (l.drop (j + 1))).1 p).1 (zc l j).1).1, (addW F 1 (zM F (pE F p (l.drop (j + 1))).1 p).2 (zc l j).2).1) := rfl
    generalize addW F 1 (zM F (pE F p (l.drop (j + 1))).1 p).1 (zc l j).1 = A1 at *
    generalize addW F 1 (zM F (pE F p (l.drop (j + 1))).1 p).2 (zc l j).2 = A2 at *
    generalize zP F (zM F (pE F p (l.drop (j + 1))).1 p) (zc l j) = q at *
    generalize zM F (pE F p (l.drop (j + 1))).1 p = pp at *
    subst mZ mP
    generalize pE F p (l.drop (j + 1)) = s at *
    generalize zc l j = a at *
    generalize uA F (uM F s.2 (uN F p)) (uA F (uS F (uA F (uN F (M.1.1, M.2.1)) (uN F (A1.1, A2.1)))) 2) = V7 at *
    generalize uA F (uS F (uA F (uN F (M.1.1, M.2.1)) (uN F (A1.1, A2.1)))) 2 = V6 at *
    generalize uS F (uA F (uN F (M.1.1, M.2.1)) (uN F (A1.1, A2.1))) = V5 at *
    generalize uA F (uN F (M.1.1, M.2.1)) (uN F (A1.1, A2.1)) = V4 at *
    generalize uM F s.2 (uN F p) = V1 at *
    generalize uN F (M.1.1, M.2.1) = V2 at *
    generalize uN F (A1.1, A2.1) = V3 at *
    generalize uN F p = r at *
    clear l2 l3 l4 wp wq ws wa hs
    obtain ⟨bs', ih⟩ := ih (bs ++ [⟨[.int .u64 (M.1.1 : Int), .int .u64 (M.2.1 : Int), .int .u8 (M.1.2 : Int), .int .u8 (M.2.2 : Int)], false⟩, ⟨[.int .u64 (A1.1 : Int), .int .u64 (A2.1 : Int), .int .u8 (A1.2 : Int), .int .u8 (A2.2 : Int)], false⟩]) hjl
    refine ⟨bs', ?_⟩
    rw [← ih]
    simp only [zB, zA, zrA, Int.cast_ofNat_Int] at *
    repeat' (first | (simp (maxSteps := 9^7) only [seval, exC, c_poly_Eval_b1, j0, m1, m2, u1, u2, u3, u4, u5, u6, u7, ia, rd, gaB, ZB, w1]) | (simp (maxSteps := 9^7) (disch := first | with_reducible assumption | omega) only [dxB]) | (simp only [kdB]; split) | (simp only [kvB]; split))
end Go.Cv
namespace Go.Cv
variable {G : Nat → Option (List AV)} {T : Tbl} {g : Nat}
def vlA (y : Nat × Nat) (b : Nat) : AV := .agg [.int .u64 (y.1 : Int), .int .u64 (y.2 : Int), .int .u64 (b : Int)]
noncomputable def evE (F : Fm) (p : Nat × Nat) (l : List (Nat × Nat)) : (Nat × Nat) × Nat := if l = [] then ((0, 0), 0) else ((pE F p l).1, bdE F (pE F p l))
theorem last_drop {l : List (Nat × Nat)} {n : Nat} (h : l.length = n + 1) : l.drop n = [zc l n] := by rw [drop_zc (by omega), List.drop_eq_nil_of_le (by omega)]
set_option maxHeartbeats 16000000 in
theorem poly_Eval (J : Al G T g) (hP : HasK g T) (F : Fm) {l : List (Nat × Nat)} {z : Bool} {a b : Nat} (h64 : W64 l) (ha : a < 18446744073709551616) (hb : b < 18446744073709551616) (h : opC F l (a, b) = 0) (hl : ¬ 41 < l.length) (hw : Zws F l) (hp : Zw F (a, b)) :
    run G T 342 [.int .u8 F.u, ZL z l, zA a b] = some (.tup [vlA (evE F (a, b) l).1 (evE F (a, b) l).2, .int .i64 0]) := by
  rw [run_k G T hP.poly_Eval]
  have o1 := poly_open J hP F (z := z) h64 ha hb
  rw [h] at o1
  unfold evE
  by_cases h0 : l = []
  · rw [if_pos h0]
    have hn : (l.length : Int) = 0 := by rw [h0]; rfl
    simp only [zA, vlA, cast0] at *
    repeat' (first | (simp (maxSteps := 9^7) only [seval, exC, c_poly_Eval, ZB, o1, hn]) | (simp (maxSteps := 9^7) (disch := first | with_reducible assumption | omega) only [dxB]) | (simp only [kdB]; split) | (simp only [kvB]; split))
  · rw [if_neg h0]
    obtain ⟨n, hln⟩ : ∃ n, l.length = n + 1 := ⟨l.length - 1, by have : l.length ≠ 0 := fun q => h0 (List.length_eq_zero_iff.1 q); omega⟩
    have hn : ¬ (l.length : Int) = 0 := by omega
    have w1 : IntKind.i64.wrap ((l.length : Int) - 1) = (n : Int) := by rw [wrap_i64 (by omega)]; omega
    have w2 : IntKind.i64.wrap ((l.length : Int) - 2) = (n : Int) - 1 := by rw [wrap_i64 (by omega)]; omega
    have t1 : ((n : Int)).toNat = n := Int.toNat_natCast n
    have ia := iaddr_Z (z := z) (l := l) (k := .i64) (j := (n : Int)) ⟨by omega, by omega⟩
    rw [t1] at ia
    have rd := fun mm => rd_Z (G := G) mm (show n < l.length by omega)
    have u1 := poly_up_abs J hP F hp.1 hp.2
    obtain ⟨bs, lp⟩ := poly_Eval_loop J hP F (z := z) (p := (a, b)) (B := ⟨[.int .u64 0, .int .u64 0, .int .u64 0], false⟩) (by omega) hw hp n [] (by omega)
    rw [last_drop hln] at lp
    rw [show pE F (a, b) [zc l n] = (zc l n, 0) from rfl] at lp
    have ws := pE_w F (a, b) l hw
    have f1 := poly_finite3 J hP F ws.1.1 ws.1.2 ws.2
    have i1 := word_Inf J F (n := false)
    unfold bdE
    generalize pE F (a, b) l = s at *
    generalize zc l n = c at *
    generalize uN F (a, b) = r at *
    generalize F.inf false = inf at *
    simp only [zB, zA, vlA, cast0] at *
    by_cases hf : F.fin s.1.1 ∧ F.fin s.1.2 ∧ F.fin s.2
    · rw [decide_eq_true hf] at f1
      rw [if_pos hf]
      repeat' (first | (simp (maxSteps := 9^7) only [seval, exC, c_poly_Eval, gaB, ZB, st_bslice3, repA_3, o1, hn, u1, w1, w2, ia, rd, lp, f1]) | (simp (maxSteps := 9^7) (disch := first | with_reducible assumption | omega) only [dxB]) | (simp only [kdB]; split) | (simp only [kvB]; split))
    · rw [decide_eq_false hf] at f1
      rw [if_neg hf]
      repeat' (first | (simp (maxSteps := 9^7) only [seval, exC, c_poly_Eval, gaB, ZB, st_bslice3, repA_3, o1, hn, u1, w1, w2, ia, rd, lp, f1, i1]) | (simp (maxSteps := 9^7) (disch := first | with_reducible assumption | omega) only [dxB]) | (simp only [kdB]; split) | (simp only [kvB]; split))
def Tb (d : Dy) (W E : Nat) : Prop := d.m ≠ 0 → (-(E : Int) ≤ d.e ∧ d.e + blen d.m ≤ W)
theorem Tb.mono {d : Dy} {W E W' E' : Nat} (h : Tb d W E) (h1 : W ≤ W') (h2 : E ≤ E') : Tb d W' E' := fun h0 => by have := h h0; omega
theorem Tb_neg {d : Dy} {W E : Nat} (h : Tb d W E) : Tb (negD d) W E := by
  unfold negD
  split
  · exact h
  · exact h
theorem Tb_vl (F : Fm) (w : Nat) : Tb (F.vl w) 1024 1074 := fun h1 => by
  have hF := fm_facts F
  have fa : F.fin w := by
    by_cases h : F.fin w
    · exact h
    · exfalso; apply h1; unfold Fm.vl; rw [if_neg h]
  have e1 := fits_val F fa (by rw [← vl_val fa]; exact h1)
  rw [← vl_val fa] at e1
  obtain ⟨_, a1, a2, a3⟩ := e1
  omega
theorem Tb_mul {a b : Dy} {W E W' E' : Nat} (na : Nz a) (nb : Nz b) (ha : Tb a W E) (hb : Tb b W' E') : Tb (mulD a b) (W + W') (E + E') := fun h0 => by
  have h1 : a.m ≠ 0 := fun q => h0 (by rw [mulD_z0 (Or.inl q)])
  have h2 : b.m ≠ 0 := fun q => h0 (by rw [mulD_z0 (Or.inr q)])
  have := ha h1
  have := hb h2
  have hbl := blen_mulT (Nat.le_refl (blen a.m)) (Nat.le_refl (blen b.m))
  rw [mulD_m na nb h1 h2]
  simp only
  omega
theorem Tb_abs {d : Dy} {W E : Nat} (h : Tb d W E) : (iv d (-(E : Int))).natAbs < 2 ^ (W + E) ∧ LoE d (-(E : Int)) := by
  by_cases h0 : d.m = 0
  · rw [iv_zero h0]; exact ⟨Nat.two_pow_pos _, Or.inl h0⟩
  · obtain ⟨h1, h2⟩ := h h0
    refine ⟨?_, Or.inr h1⟩
    have e : (iv d (-(E : Int))).natAbs = d.m * 2 ^ (d.e - -(E : Int)).toNat := by
      rcases iv_cases d (-(E : Int)) with ⟨q, _⟩ | ⟨q, _⟩ <;> rw [q]
      · exact Int.natAbs_natCast _
      · rw [Int.natAbs_neg]; exact Int.natAbs_natCast _
    rw [e]
    refine blen_le.1 ?_
    rw [blen_mul h0]
    omega
theorem Tb_of {d : Dy} {W E : Nat} (hl : LoE d (-(E : Int))) (h : (iv d (-(E : Int))).natAbs < 2 ^ (W + E)) : Tb d W E := fun h0 => by
  have h1 := e_low hl h0
  have e : (iv d (-(E : Int))).natAbs = d.m * 2 ^ (d.e - -(E : Int)).toNat := by
    rcases iv_cases d (-(E : Int)) with ⟨q, _⟩ | ⟨q, _⟩ <;> rw [q]
    · exact Int.natAbs_natCast _
    · rw [Int.natAbs_neg]; exact Int.natAbs_natCast _
  rw [e] at h
  have h2 := blen_le.2 h
  rw [blen_mul h0] at h2
  exact ⟨h1, by omega⟩
theorem Tb_add {a b : Dy} {W E : Nat} (ha : Tb a W E) (hb : Tb b W E) : Tb (addD a b) (W + 1) E := by
  obtain ⟨a1, a2⟩ := Tb_abs ha
  obtain ⟨b1, b2⟩ := Tb_abs hb
  obtain ⟨i1, l1⟩ := iv_add a2 b2
  refine Tb_of l1 ?_
  rw [i1, show W + 1 + E = (W + E) + 1 by omega, Nat.pow_succ]
  have := Int.natAbs_add_le (iv a (-(E : Int))) (iv b (-(E : Int)))
  omega
theorem Tb_Bd {d : Dy} {W E : Nat} (h : Tb d W E) (nz : Nz d) : Bd d (W + E) := by
  by_cases h0 : d.m = 0
  · rw [nz.1 h0]; exact ⟨by simp only [blen_zero]; omega, by simp only; omega, by simp only; omega⟩
  · obtain ⟨h1, h2⟩ := h h0
    exact ⟨by omega, by omega, by omega⟩
theorem exE_tb (F : Fm) (z : Nat × Nat) : ∀ l, Tb (exE F z l).1 (l.length * 1030) (l.length * 1074) ∧ Tb (exE F z l).2 (l.length * 1030) (l.length * 1074)
  | [] => ⟨fun h => absurd rfl h, fun h => absurd rfl h⟩
  | a :: l => by
    obtain ⟨h1, h2⟩ := exE_tb F z l
    obtain ⟨n1, n2⟩ := exE_nz F z l
    have m1 := Tb_mul n1 (Nz_vl F z.1) h1 (Tb_vl F z.1)
    have m2 := Tb_mul n2 (Nz_vl F z.2) h2 (Tb_vl F z.2)
    have m3 := Tb_mul n1 (Nz_vl F z.2) h1 (Tb_vl F z.2)
    have m4 := Tb_mul n2 (Nz_vl F z.1) h2 (Tb_vl F z.1)
    have v1 := (Tb_vl F a.1).mono (W' := l.length * 1030 + 1024 + 1) (E' := l.length * 1074 + 1074) (by omega) (by omega)
    have v2 := (Tb_vl F a.2).mono (W' := l.length * 1030 + 1024 + 1) (E' := l.length * 1074 + 1074) (by omega) (by omega)
    rw [List.length_cons]
    exact ⟨(Tb_add (Tb_add m1 (Tb_neg m2)) v1).mono (by omega) (by omega), (Tb_add (Tb_add m3 m4) v2).mono (by omega) (by omega)⟩
theorem dl_small {d : Dy} {K : Nat} (h : Bd d K) (hK : K ≤ 1073741824) : (dl d.m).length < 1073741824 := by
  have := dl_len_blen d.m
  have := h.bl
  omega
theorem ref_mulB (J : Al G T g) {z y : Bool} {a b : Dy} (ha : Bd a 1000000) (hb : Bd b 1000000) : ∃ z', run G T 154 [DyA z a, DyA y b] = some (DyA z' (mulD a b)) :=
  ref02_Mul J (z := z) (y := y) (dl_small ha (by decide)) (dl_small hb (by decide)) (by have := ha.lo; have := ha.hi; omega) (by have := hb.lo; have := hb.hi; omega)
theorem xc_loop (e : Env) (h : Heap) : evL G T c_ref27_Exactly_l1 e h = kS G T (evL G T c_ref27_Exactly_b1 (keepE [0, 1, 6, 7, 8, 9, 10, 11, 12] e) h) c_ref27_Exactly_l1 := s_loopc G T rfl e h
def dB (z : Bool) (d : Dy) : Blk := ⟨[.bool d.n, D z (dl d.m), .int .i64 d.e], false⟩
theorem exE_cons (F : Fm) (z : Nat × Nat) {l : List (Nat × Nat)} {j : Nat} (h : j < l.length) : exE F z (l.drop j) = (addD (subD (mulD (exE F z (l.drop (j + 1))).1 (F.vl z.1)) (mulD (exE F z (l.drop (j + 1))).2 (F.vl z.2))) (F.vl (zc l j).1), addD (addD (mulD (exE F z (l.drop (j + 1))).1 (F.vl z.2)) (mulD (exE F z (l.drop (j + 1))).2 (F.vl z.1))) (F.vl (zc l j).2)) := by
  rw [drop_zc h]; rfl
set_option maxHeartbeats 16000000 in
theorem ref27_Exactly_loop (J : Al G T g) (hP : HasK g T) (F : Fm) {l : List (Nat × Nat)} {z : Bool} {p : Nat × Nat} {B0 B1 B2 : Blk} {zx zy : Bool} (hl : l.length ≤ 41) (hw : Zws F l) (hf : Zfs F l) : ∀ (j : Nat) (bs : List Blk) (z1 z2 : Bool), j ≤ l.length →
    ∃ bs' z1' z2', evL G T c_ref27_Exactly_l1 [(0, .int .u8 F.u), (1, ZL z l), (6, .ptr 1 0), (7, .ptr 2 0), (8, .ptr 3 0), (9, .ptr 4 0), (10, .ptr 5 0), (11, .ptr 6 0), (12, .int .i64 ((j : Int) - 1))]
        ⟨B0 :: B1 :: B2 :: dB z1 (exE F p (l.drop j)).1 :: dB z2 (exE F p (l.drop j)).2 :: dB zx (F.vl p.1) :: dB zy (F.vl p.2) :: bs, []⟩ =
      some (.exit 0, [(0, .int .u8 F.u), (1, ZL z l), (6, .ptr 1 0), (7, .ptr 2 0), (8, .ptr 3 0), (9, .ptr 4 0), (10, .ptr 5 0), (11, .ptr 6 0), (12, .int .i64 (-1)), (27, .bool false)],
        ⟨B0 :: B1 :: B2 :: dB z1' (exE F p l).1 :: dB z2' (exE F p l).2 :: dB zx (F.vl p.1) :: dB zy (F.vl p.2) :: bs', []⟩)
  | 0, bs, z1, z2, _ => by
    refine ⟨bs, z1, z2, ?_⟩
    rw [List.drop_zero, xc_loop]
    generalize exE F p l = s at *
    generalize F.vl p.1 = x at *
    generalize F.vl p.2 = y at *
    simp only [dB]
    repeat' (first | (simp (maxSteps := 9^7) only [seval, exC, c_ref27_Exactly_b1, cast0, Int.zero_sub]) | (simp (maxSteps := 9^7) (disch := first | with_reducible assumption | omega) only [dxB]) | (simp only [kdB]; split) | (simp only [kvB]; split))
  | j + 1, bs, z1, z2, hj => by
    have hjl : j < l.length := by omega
    have ih := ref27_Exactly_loop J hP F (z := z) (p := p) (B0 := B0) (B1 := B1) (B2 := B2) (zx := zx) (zy := zy) hl hw hf j
    have wa := hw _ (zc_mem hjl)
    have fa := hf _ (zc_mem hjl)
    have hs := exE_cons F p hjl
    obtain ⟨nz1, nz2⟩ := exE_nz F p (l.drop (j + 1))
    obtain ⟨tb1, tb2⟩ := exE_tb F p (l.drop (j + 1))
    have hlen : (l.drop (j + 1)).length ≤ 41 := by rw [List.length_drop]; omega
    have b1 : Bd (exE F p (l.drop (j + 1))).1 90000 := (Tb_Bd tb1 nz1).mono (by omega)
    have b2 : Bd (exE F p (l.drop (j + 1))).2 90000 := (Tb_Bd tb2 nz2).mono (by omega)
    have pb : ∀ {d : Dy} {w : Nat}, Nz d → Tb d ((l.drop (j + 1)).length * 1030) ((l.drop (j + 1)).length * 1074) → Bd (mulD d (F.vl w)) 100000 := fun {d w} nd td => (Tb_Bd (Tb_mul nd (Nz_vl F w) td (Tb_vl F w)) (Nz_mul _ _)).mono (by omega)
    obtain ⟨y1, m1⟩ := ref_mulB J (z := z1) (y := zx) (b1.mono (by decide)) ((Bd_vl2 F p.1).mono (by decide))
    obtain ⟨y2, m2⟩ := ref_mulB J (z := z2) (y := zy) (b2.mono (by decide)) ((Bd_vl2 F p.2).mono (by decide))
    obtain ⟨y3, m3⟩ := ref_mulB J (z := z1) (y := zy) (b1.mono (by decide)) ((Bd_vl2 F p.2).mono (by decide))
    obtain ⟨y4, m4⟩ := ref_mulB J (z := z2) (y := zx) (b2.mono (by decide)) ((Bd_vl2 F p.1).mono (by decide))
    have q1 := pb (w := p.1) nz1 tb1
    have q2 := pb (w := p.2) nz2 tb2
    have q3 := pb (w := p.2) nz1 tb1
    have q4 := pb (w := p.1) nz2 tb2
    obtain ⟨y5, s1⟩ := ref02_Sub J (z := y1) (y := y2) (q1.mono (by decide)) (q2.mono (by decide))
    obtain ⟨y6, s2⟩ := ref02_Add J (z := y3) (y := y4) (q3.mono (by decide)) (q4.mono (by decide))
    obtain ⟨u1, v1⟩ := ref03_Value J F (sg_64 wa.1) fa.1
    obtain ⟨u2, v2⟩ := ref03_Value J F (sg_64 wa.2) fa.2
    rw [← vl_val fa.1] at v1
    rw [← vl_val fa.2] at v2
    have q5 := Bd_sub q1 q2
    have q6 := Bd_add q3 q4
    obtain ⟨y7, s3⟩ := ref02_Add J (z := y5) (y := u1) (q5.mono (by decide)) ((Bd_vl2 F (zc l j).1).mono (by decide))
    obtain ⟨y8, s4⟩ := ref02_Add J (z := y6) (y := u2) (q6.mono (by decide)) ((Bd_vl2 F (zc l j).2).mono (by decide))
    rw [hs] at ih
    clear pb q1 q2 q3 q4 q5 q6 b1 b2 tb1 tb2 nz1 nz2 hlen hs
    have t1 : ((j : Int)).toNat = j := Int.toNat_natCast j
    have e1 : ((j + 1 : Nat) : Int) - 1 = j := by omega
    have j0 : 0 ≤ (j : Int) := by omega
    have w1 : IntKind.i64.wrap ((j : Int) - 1) = (j : Int) - 1 := wrap_i64 (by omega)
    have ia := iaddr_Z (z := z) (l := l) (k := .i64) (j := (j : Int)) ⟨by omega, by omega⟩
    rw [t1] at ia
    have rd0 := fun mm => rd_Z0 (G := G) mm hjl
    have rd1 := fun mm => rd_Z1 (G := G) mm hjl
    rw [e1, xc_loop]
    generalize exE F p (l.drop (j + 1)) = s at *
    generalize addD (subD (mulD s.1 (F.vl p.1)) (mulD s.2 (F.vl p.2))) (F.vl (zc l j).1) = A at *
    generalize addD (addD (mulD s.1 (F.vl p.2)) (mulD s.2 (F.vl p.1))) (F.vl (zc l j).2) = A' at *
    generalize subD (mulD s.1 (F.vl p.1)) (mulD s.2 (F.vl p.2)) = S1 at *
    generalize addD (mulD s.1 (F.vl p.2)) (mulD s.2 (F.vl p.1)) = S2 at *
    generalize mulD s.1 (F.vl p.1) = M1 at *
    generalize mulD s.2 (F.vl p.2) = M2 at *
    generalize mulD s.1 (F.vl p.2) = M3 at *
    generalize mulD s.2 (F.vl p.1) = M4 at *
    generalize F.vl (zc l j).1 = va at *
    generalize F.vl (zc l j).2 = vb at *
    generalize F.vl p.1 = vx at *
    generalize F.vl p.2 = vy at *
    generalize zc l j = a at *
    obtain ⟨bs', z1', z2', ih⟩ := ih (bs ++ [dB y5 S1, dB y6 S2]) y7 y8 (by omega)
    refine ⟨bs', z1', z2', ?_⟩
    rw [← ih]
    simp only [dB, DyA, A3] at *
    repeat' (first | (simp (maxSteps := 9^7) only [seval, exC, c_ref27_Exactly_b1, j0, m1, m2, m3, m4, s1, s2, s3, s4, v1, v2, ia, fa_i, rd0, rd1, gaB, ZB, w1]) | (simp (maxSteps := 9^7) (disch := first | with_reducible assumption | omega) only [dxB]) | (simp only [kdB]; split) | (simp only [kvB]; split))
set_option maxHeartbeats 16000000 in
theorem ref27_Exactly (J : Al G T g) (hP : HasK g T) (F : Fm) {l : List (Nat × Nat)} {z : Bool} {a b : Nat} (hl : l.length ≤ 41) (hw : Zws F l) (hf : Zfs F l) (hp : Zw F (a, b)) (fp : Zf F (a, b)) :
    ∃ z1 z2, run G T 347 [.int .u8 F.u, ZL z l, zA a b] = some (.tup [DyA z1 (exE F (a, b) l).1, DyA z2 (exE F (a, b) l).2]) := by
  rw [run_k G T hP.ref27_Exactly]
  obtain ⟨u1, v1⟩ := ref03_Value J F (sg_64 hp.1) fp.1
  obtain ⟨u2, v2⟩ := ref03_Value J F (sg_64 hp.2) fp.2
  rw [← vl_val fp.1] at v1
  rw [← vl_val fp.2] at v2
  have w1 : IntKind.i64.wrap ((l.length : Int) - 1) = (l.length : Int) - 1 := wrap_i64 (by omega)
  obtain ⟨bs, z1, z2, lp⟩ := ref27_Exactly_loop J hP F (z := z) (p := (a, b)) (B0 := ⟨[.int .u64 (a : Int), .int .u64 (b : Int)], false⟩) (B1 := ⟨[.bool false, .nil, .int .i64 0], false⟩) (B2 := ⟨[.bool false, .nil, .int .i64 0], false⟩) (zx := u1) (zy := u2) hl hw hf l.length [] true true (Nat.le_refl _)
  rw [List.drop_length, show exE F (a, b) [] = (⟨false, 0, 0⟩, ⟨false, 0, 0⟩) from rfl] at lp
  refine ⟨z1, z2, ?_⟩
  have d0 : D true (dl 0) = .nil := by rw [dl_zero]; rfl
  simp only [dB, d0] at lp
  generalize exE F (a, b) l = s at *
  generalize F.vl a = x at *
  generalize F.vl b = y at *
  simp only [zA, DyA, A3] at *
  repeat' (first | (simp (maxSteps := 9^7) only [seval, exC, c_ref27_Exactly, gaB, ZB, v1, v2, w1, lp]) | (simp (maxSteps := 9^7) (disch := first | with_reducible assumption | omega) only [dxB]) | (simp only [kdB]; split) | (simp only [kvB]; split))
theorem law27_squares (J : Al G T g) (hP : HasK g T) {z y : Bool} {a b : Dy} (ha : Bd a 1000000) (hb : Bd b 1000000) (na : Nz a) (nb : Nz b) : ∃ z', run G T 348 [DyA z a, DyA y b] = some (DyA z' (addD (mulD a a) (mulD b b))) := by
  rw [run_k G T hP.law27_squares]
  obtain ⟨y1, m1⟩ := ref_mulB J (z := z) (y := z) ha ha
  obtain ⟨y2, m2⟩ := ref_mulB J (z := y) (y := y) hb hb
  obtain ⟨y3, s1⟩ := ref02_Add J (z := y1) (y := y2) ((Bd_mul ha ha).mono (by decide)) ((Bd_mul hb hb).mono (by decide))
  refine ⟨y3, ?_⟩
  generalize addD (mulD a a) (mulD b b) = s at *
  generalize mulD a a = aa at *
  generalize mulD b b = bb at *
  simp only [DyA, A3] at *
  repeat' (first | (simp (maxSteps := 9^7) only [seval, exC, c_law27_squares, m1, m2, s1]) | (simp (maxSteps := 9^7) (disch := first | with_reducible assumption | omega) only [dxB]) | (simp only [kdB]; split) | (simp only [kvB]; split))
theorem rnd_ng (F : Fm) {md : Int} (hm : 1 ≤ md ∧ md ≤ 5) {d : Dy} (nz : Nz d) (h0 : d.m ≠ 0) : F.ng (rndW F md d).1 = d.n := by
  have hi := fm_i0 F
  have e : quoW F md d oneD = rndW F md d := quo_exact F md nz nz Nz_one h0 (by decide) (K := d.e) (L := 0) (by rw [Int.add_zero]; exact Or.inr (Int.le_refl _)) (Or.inr (Int.le_refl _)) LoE_one (by rw [iv_one, Int.mul_one, Int.add_zero])
  obtain ⟨s0, o, h, m, hs⟩ := quo_size F h0 (show oneD.m ≠ 0 by decide)
  have k := (sz_between F hm (d.n != oneD.n) o h m s0).2.2.2
  rw [← e, hs md hm, show (d.n != oneD.n) = d.n by show (d.n != false) = d.n; cases d.n <;> rfl] at *
  exact (sgn_mod d.n (by simp only at k; omega)).2
theorem sgn_ng (F : Fm) (n : Bool) : F.ng (F.sgn n) = n := (sgn_facts F n).2.1
theorem ng0 (F : Fm) : F.ng 0 = false := (sgn_facts F false).2.1
theorem ng_vl (F : Fm) {w : Nat} (hf : F.fin w) (h0 : (F.vl w).m ≠ 0) : (F.vl w).n = F.ng w := by
  rw [vl_val hf] at h0 ⊢
  unfold Fm.val at h0 ⊢
  split
  · next q => rw [if_pos q] at h0; exact mkD_n (fun k => h0 (by rw [k]; rfl)) _
  · next q => rw [if_neg q] at h0; exact mkD_n (fun k => h0 (by rw [k]; rfl)) _
theorem vl_nn (F : Fm) {w : Nat} (hf : F.fin w) (h : F.ng w = false) : (F.vl w).n = false := by
  by_cases h0 : (F.vl w).m = 0
  · rw [(Nz_vl F w).1 h0]
  · rw [ng_vl F hf h0, h]
theorem sum_ng (F : Fm) {d : Dy} (nz : Nz d) (hn : d.n = false) : F.ng (sumW F 4 d).1 = false := by
  unfold sumW
  by_cases h0 : d.m = 0
  · rw [if_pos h0]; exact sgn_ng F (decide ((4 : Int) = 5))
  · rw [if_neg h0, rnd_ng F (by decide) nz h0, hn]
theorem uA_ng (F : Fm) {a b : Nat} (hf : F.fin (uA F a b)) (na : F.ng a = false) (nb : F.ng b = false) : F.ng (uA F a b) = false := by
  obtain ⟨fa, fb⟩ := addW_fin F 4 hf
  unfold uA addW
  rw [addP_fin F 4 (fin_iff.1 fa) (fin_iff.1 fb)]
  split
  · rw [na]; exact sgn_ng F false
  · obtain ⟨i1, l1⟩ := iv_add (LoE_vl fa) (LoE_vl fb)
    have nz := Nz_add (Nz_vl F a) (Nz_vl F b)
    exact sum_ng F nz (nn_of nz l1 (by rw [i1]; have := nn_iv F.low (vl_nn F fa na); have := nn_iv F.low (vl_nn F fb nb); omega))
theorem uM_ng (F : Fm) {a b : Nat} (hf : F.fin (uM F a b)) (na : F.ng a = false) (nb : F.ng b = false) : F.ng (uM F a b) = false := by
  obtain ⟨fa, fb⟩ := mulW_fin F 4 hf
  unfold uM mulW2
  rw [mulP_fin F 4 (fin_iff.1 fa) (fin_iff.1 fb)]
  split
  · rw [na, nb]; exact sgn_ng F false
  · obtain ⟨i1, l1⟩ := iv_mul (LoE_vl fa) (LoE_vl fb)
    have nz := Nz_mul (F.vl a) (F.vl b)
    exact sum_ng F nz (nn_of nz l1 (by rw [i1]; exact Int.mul_nonneg (nn_iv _ (vl_nn F fa na)) (nn_iv _ (vl_nn F fb nb))))
theorem uS_ng (F : Fm) {w : Nat} (hf : F.fin (uS F w)) (nw : F.ng w = false) : F.ng (uS F w) = false := by
  have fw := scaW_fin F 4 hf
  unfold uS scaW at hf ⊢
  split
  · next q => rw [if_pos q] at hf; exact absurd hf (nan_fin F)
  · split
    · exact nw
    · next q1 q2 =>
      by_cases h0 : (shD (F.vl w) (-(F.fr + 1 : Nat))).m = 0
      · unfold rndW; rw [if_pos h0]; exact ng0 F
      · rw [rnd_ng F (by decide) (Nz_sh (Nz_vl F w) _) h0]
        unfold shD
        split
        · exact vl_nn F fw nw
        · exact vl_nn F fw nw
theorem uN_ng (F : Fm) {p : Nat × Nat} (hf : F.fin (uN F p)) : F.ng (uN F p) = false := by
  obtain ⟨f1, f2⟩ := uN_fin F hf
  have hi := fm_i0 F
  unfold uN
  rw [absZ_fin F 4 f1 f2]
  unfold rtW
  by_cases h0 : (sqD F p.1 p.2).m = 0
  · rw [if_pos h0]; exact ng0 F
  · rw [if_neg h0]
    unfold rootW
    obtain ⟨r1, r2⟩ := isq_spec ((sqD F p.1 p.2).m * 2 ^ rootP (sqD F p.1 p.2).e)
    have hP : rootP (sqD F p.1 p.2).e = 130 + ((sqD F p.1 p.2).e % 2).toNat := rfl
    have hbp := blen_pos h0
    have hbm := blen_mul h0 (rootP (sqD F p.1 p.2).e)
    have hbt : 64 < blen (isq ((sqD F p.1 p.2).m * 2 ^ rootP (sqD F p.1 p.2).e)) := root_blen (k := 64) (M := (sqD F p.1 p.2).m * 2 ^ rootP (sqD F p.1 p.2).e) (by
      have := pow_blen_le (n := (sqD F p.1 p.2).m * 2 ^ rootP (sqD F p.1 p.2).e) (by intro hc; rw [hc, blen_zero] at hbm; omega)
      rw [← Nat.pow_add]
      exact Nat.le_trans (Nat.pow_le_pow_right (by decide) (by omega)) this) r2
    have hF := fm_fr F
    obtain ⟨s0, o, h, m, hs⟩ := sW_size F false (Q := isq ((sqD F p.1 p.2).m * 2 ^ rootP (sqD F p.1 p.2).e)) (!decide (isq ((sqD F p.1 p.2).m * 2 ^ rootP (sqD F p.1 p.2).e) * isq ((sqD F p.1 p.2).m * 2 ^ rootP (sqD F p.1 p.2).e) = (sqD F p.1 p.2).m * 2 ^ rootP (sqD F p.1 p.2).e)) (((sqD F p.1 p.2).e - (rootP (sqD F p.1 p.2).e : Nat)) / 2) (by omega)
    have k := (sz_between F (md := 4) (by decide) false o h m s0).2.2.2
    rw [hs 4 (by decide)]
    exact (sgn_mod false (by simp only at k; omega)).2
theorem pE_ng (F : Fm) (z : Nat × Nat) : ∀ l, F.fin (pE F z l).2 → F.ng (pE F z l).2 = false
  | [], _ => ng0 F
  | [a], _ => ng0 F
  | a :: b :: l, hf => by
    have hf' : F.fin (stE F z (pE F z (b :: l)) a).2 := hf
    obtain ⟨f1, f2, f3, f4, f5, f6, f7, f8, f9, f10⟩ := stE_fin F hf'
    have ih := pE_ng F z (b :: l) f2
    have two : F.ng 2 = false := by cases F <;> decide
    exact uA_ng F hf' (uM_ng F f1 ih (uN_ng F f3)) (uA_ng F f4 (uS_ng F f5 (uA_ng F f6 (uN_ng F f7) (uN_ng F f8))) two)
theorem ref27_Opens_no (J : Al G T g) (hP : HasK g T) {f : Int} (h : ¬ (f = 1 ∨ f = 2)) {z : Bool} {l : List (Nat × Nat)} {a b : Nat} : run G T 344 [.int .u8 f, ZL z l, zA a b] = some (.int .i64 4) := by
  rw [run_k G T hP.ref27_Opens]
  have h1 := ref03_Is J (f := f)
  rw [decide_eq_false h] at h1
  simp only [zA]
  repeat' (first | (simp (maxSteps := 9^7) only [seval, exC, c_ref27_Opens, ZB, h1]) | (simp (maxSteps := 9^7) (disch := first | with_reducible assumption | omega) only [dxB]) | (simp only [kdB]; split) | (simp only [kvB]; split))
theorem zopens (J : Al G T g) (hP : HasK g T) {f : Int} {z : Bool} {l : List (Nat × Nat)} {a b : Nat} (h64 : W64 l) (ha : a < 18446744073709551616) (hb : b < 18446744073709551616) :
    (∃ e, e ≠ 0 ∧ run G T 344 [.int .u8 f, ZL z l, zA a b] = some (.int .i64 e)) ∨
    (∃ F, f = Fm.u F ∧ run G T 344 [.int .u8 f, ZL z l, zA a b] = some (.int .i64 0) ∧ opC F l (a, b) = 0 ∧ ¬ 41 < l.length ∧ Zws F l ∧ Zw F (a, b) ∧ Zfs F l ∧ Zf F (a, b)) := by
  by_cases hf : f = 1 ∨ f = 2
  · obtain ⟨F, rfl⟩ := fm_of hf
    have o := ref27_Opens J hP F (z := z) h64 ha hb
    by_cases h1 : 41 < l.length
    · rw [opC_long (F := F) (p := (a, b)) h1] at o; exact Or.inl ⟨3, by decide, o⟩
    · by_cases h2 : Zws F l ∧ Zw F (a, b)
      · by_cases h3 : Zfs F l ∧ Zf F (a, b)
        · have e := opC_ok h1 h2 h3
          rw [e] at o
          exact Or.inr ⟨F, rfl, o, e, h1, h2.1, h2.2, h3.1, h3.2⟩
        · rw [opC_none h1 h2 h3] at o; exact Or.inl ⟨7, by decide, o⟩
      · rw [opC_word h1 h2] at o; exact Or.inl ⟨6, by decide, o⟩
  · exact Or.inl ⟨4, by decide, ref27_Opens_no J hP hf⟩
theorem bdE_facts (F : Fm) (s : (Nat × Nat) × Nat) (hs : s.2 < 2 * F.sg) : bdE F s < 2 * F.sg ∧ F.cls (bdE F s) ≠ 5 ∧ (F.fin (bdE F s) → (F.fin s.1.1 ∧ F.fin s.1.2 ∧ F.fin s.2) ∧ bdE F s = s.2) ∧ (¬ F.fin (bdE F s) → bdE F s = F.inf false) := by
  unfold bdE
  by_cases h : F.fin s.1.1 ∧ F.fin s.1.2 ∧ F.fin s.2
  · rw [if_pos h]
    exact ⟨hs, by have := fin_iff.1 h.2.2; omega, fun _ => ⟨h, rfl⟩, fun q => absurd h.2.2 q⟩
  · rw [if_neg h]
    exact ⟨inf_lt F _, by rw [cls_inf]; decide, fun q => absurd q (inf_fin F _), fun _ => rfl⟩
theorem far_le (F : Fm) {x y : Dy} {w1 w2 b : Nat} (f1 : F.fin w1) (f2 : F.fin w2) (fb : F.fin b) {L0 : Int} (h : ∀ L, L ≤ L0 → (LoE x L ∧ LoE y L) ∧ NB (iv x L - iv (F.vl w1) L) (iv y L - iv (F.vl w2) L) (iv (F.vl b) L)) :
    cmpD (addD (mulD (subD x (F.vl w1)) (subD x (F.vl w1))) (mulD (subD y (F.vl w2)) (subD y (F.vl w2)))) (mulD (F.vl b) (F.vl b)) ≤ 0 := by
  obtain ⟨⟨lx, ly⟩, h1, h2⟩ := h (min L0 (-2000)) (by omega)
  have hL : min L0 (-2000) ≤ -2000 := by omega
  generalize min L0 (-2000) = L at *
  obtain ⟨s1, t1⟩ := iv_sub lx (LoEv f1 hL)
  obtain ⟨s2, t2⟩ := iv_sub ly (LoEv f2 hL)
  obtain ⟨m1, n1⟩ := iv_mul t1 t1
  obtain ⟨m2, n2⟩ := iv_mul t2 t2
  obtain ⟨m3, n3⟩ := iv_mul (LoEv fb hL) (LoEv fb hL)
  obtain ⟨a1, a2⟩ := iv_add n1 n2
  rw [cmp_iv a2 n3, a1, m1, m2, m3, s1, s2]
  unfold sgI
  split
  · decide
  · rw [if_neg (by omega)]; decide
set_option maxHeartbeats 16000000 in
theorem law27_PolyBound (J : Al G T g) (hP : HasK g T) (hK : run G T 345 [] = some (.bool true)) {f : Int} {z : Bool} {l : List (Nat × Nat)} {a b : Nat} (h64 : W64 l) (ha : a < 18446744073709551616) (hb : b < 18446744073709551616) :
    run G T 322 [.int .u8 f, ZL z l, .agg [.int .u64 (a : Int), .int .u64 (b : Int)]] = some (.bool true) := by
  rw [run_k G T hP.law27_PolyBound]
  rcases zopens J hP (f := f) (z := z) h64 ha hb with ⟨e, he, o1⟩ | ⟨F, rfl, o1, oc, hl, hw, hp, hf, fp⟩
  · simp only [zA] at *
    repeat' (first | (simp (maxSteps := 9^7) only [seval, exC, c_law27_PolyBound, ZB, o1, he, hK]) | (simp (maxSteps := 9^7) (disch := first | with_reducible assumption | omega) only [dxB]) | (simp only [kdB]; split) | (simp only [kvB]; split))
  · have ev := poly_Eval J hP F (z := z) h64 ha hb oc hl hw hp
    have ws := pE_w F (a, b) l hw
    obtain ⟨k1, k2, k3, k4⟩ := bdE_facts F (pE F (a, b) l) ws.2
    have nn := pE_ng F (a, b) l
    have bh := bound_holds F hp fp l (fun c hc => ⟨hw c hc, hf c hc⟩)
    have z0 : (0 : Nat) < 2 * F.sg := by cases F <;> decide
    have zf : F.fin 0 := fin_iff.2 (Or.inl (sgn_facts F false).2.2.1)
    -- one form for the empty list too
    have hev : ∃ y bd, evE F (a, b) l = (y, bd) ∧ Zw F y ∧ bd < 2 * F.sg ∧ F.cls bd ≠ 5 ∧ (F.fin bd → (F.fin y.1 ∧ F.fin y.2) ∧ F.ng bd = false ∧ ∃ L0, ∀ L, L ≤ L0 → (LoE (exE F (a, b) l).1 L ∧ LoE (exE F (a, b) l).2 L) ∧ NB (iv (exE F (a, b) l).1 L - iv (F.vl y.1) L) (iv (exE F (a, b) l).2 L - iv (F.vl y.2) L) (iv (F.vl bd) L)) ∧ (¬ F.fin bd → bd = F.inf false) := by
      unfold evE
      by_cases h0 : l = []
      · rw [if_pos h0]
        refine ⟨(0, 0), 0, rfl, ⟨z0, z0⟩, z0, by have := fin_iff.1 zf; omega, fun _ => ⟨⟨zf, zf⟩, ng0 F, ?_⟩, fun q => absurd zf q⟩
        subst h0
        exact (bh zf).2.2
      · rw [if_neg h0]
        refine ⟨_, _, rfl, ws.1, k1, k2, fun q => ?_, k4⟩
        obtain ⟨⟨q1, q2, q3⟩, q4⟩ := k3 q
        rw [q4]
        exact ⟨⟨q1, q2⟩, nn q3, (bh q3).2.2⟩
    obtain ⟨y, bd, he, hy, hbd, h5, hfin, hinf⟩ := hev
    rw [he] at ev
    have g1 := ref03_Good J F (sg_64 hbd)
    rw [if_pos hbd] at g1
    have c1 := ref03_Class J F (sg_64 hbd)
    have f1 := ref03_Finite J F (sg_64 hbd)
    have i1 := ref03_Inf J F (n := false)
    by_cases hb0 : F.fin bd
    · rw [decide_eq_true hb0] at f1
      obtain ⟨⟨y1, y2⟩, ng, L0, hN⟩ := hfin hb0
      have f2 := ref10_Finite J F hy.1 hy.2
      rw [decide_eq_true ⟨y1, y2⟩] at f2
      have s1 := ref03_Split J F (sg_64 hbd)
      rw [ng] at s1
      obtain ⟨z1, z2, x1⟩ := ref27_Exactly J hP F (z := z) (by omega) hw hf hp fp
      obtain ⟨u1, v1⟩ := ref03_Value J F (sg_64 hy.1) y1
      obtain ⟨u2, v2⟩ := ref03_Value J F (sg_64 hy.2) y2
      obtain ⟨u3, v3⟩ := ref03_Value J F (sg_64 hbd) hb0
      rw [← vl_val y1] at v1
      rw [← vl_val y2] at v2
      rw [← vl_val hb0] at v3
      obtain ⟨nz1, nz2⟩ := exE_nz F (a, b) l
      obtain ⟨tb1, tb2⟩ := exE_tb F (a, b) l
      have b1 : Bd (exE F (a, b) l).1 90000 := (Tb_Bd tb1 nz1).mono (by omega)
      have b2 : Bd (exE F (a, b) l).2 90000 := (Tb_Bd tb2 nz2).mono (by omega)
      obtain ⟨u4, d1⟩ := ref02_Sub J (z := z1) (y := u1) (b1.mono (by decide)) ((Bd_vl2 F y.1).mono (by decide))
      obtain ⟨u5, d2⟩ := ref02_Sub J (z := z2) (y := u2) (b2.mono (by decide)) ((Bd_vl2 F y.2).mono (by decide))
      have q1 := (Bd_sub b1 ((Bd_vl2 F y.1).mono (show 2048 ≤ 90000 by decide))).mono (show 4 * 90000 + 1 ≤ 1000000 by decide)
      have q2 := (Bd_sub b2 ((Bd_vl2 F y.2).mono (show 2048 ≤ 90000 by decide))).mono (show 4 * 90000 + 1 ≤ 1000000 by decide)
      obtain ⟨u6, sq⟩ := law27_squares J hP (z := u4) (y := u5) q1 q2 (Nz_sub nz1 (Nz_vl F _)) (Nz_sub nz2 (Nz_vl F _))
      obtain ⟨u7, mm⟩ := ref_mulB J (z := u3) (y := u3) (a := F.vl bd) (b := F.vl bd) ((Bd_vl2 F bd).mono (by decide)) ((Bd_vl2 F bd).mono (by decide))
      have cc := ref02_Cmp J (z := u6) (y := u7) (a := addD (mulD (subD (exE F (a, b) l).1 (F.vl y.1)) (subD (exE F (a, b) l).1 (F.vl y.1))) (mulD (subD (exE F (a, b) l).2 (F.vl y.2)) (subD (exE F (a, b) l).2 (F.vl y.2)))) (b := mulD (F.vl bd) (F.vl bd)) ((Bd_add (Bd_mul q1 q1) (Bd_mul q2 q2)).mono (by decide)) ((Bd_mul (Bd_vl2 F bd) (Bd_vl2 F bd)).mono (by decide))
      have le := far_le F y1 y2 hb0 hN
      generalize cmpD (addD (mulD (subD (exE F (a, b) l).1 (F.vl y.1)) (subD (exE F (a, b) l).1 (F.vl y.1))) (mulD (subD (exE F (a, b) l).2 (F.vl y.2)) (subD (exE F (a, b) l).2 (F.vl y.2)))) (mulD (F.vl bd) (F.vl bd)) = c at *
      clear b1 b2 q1 q2 tb1 tb2 nz1 nz2 hN bh ws k1 k2 k3 k4 nn hfin hinf
      generalize addD (mulD (subD (exE F (a, b) l).1 (F.vl y.1)) (subD (exE F (a, b) l).1 (F.vl y.1))) (mulD (subD (exE F (a, b) l).2 (F.vl y.2)) (subD (exE F (a, b) l).2 (F.vl y.2))) = FA at *
      generalize mulD (F.vl bd) (F.vl bd) = MM at *
      generalize subD (exE F (a, b) l).1 (F.vl y.1) = S1 at *
      generalize subD (exE F (a, b) l).2 (F.vl y.2) = S2 at *
      generalize exE F (a, b) l = X at *
      generalize F.vl y.1 = v1' at *
      generalize F.vl y.2 = v2' at *
      generalize F.vl bd = v3' at *
      generalize F.cls bd = cb at *
      generalize F.ex bd = eb at *
      generalize F.fc bd = fb at *
      simp only [zA, vlA, fldA, DyA, A3] at *
      repeat' (first | (simp (maxSteps := 9^7) only [seval, exC, c_law27_PolyBound, ZB, o1, ev, g1, c1, h5, f1, f2, s1, fd_3, x1, v1, v2, v3, d1, d2, sq, mm, cc, le, hK]) | (simp (maxSteps := 9^7) (disch := first | with_reducible assumption | omega) only [dxB]) | (simp only [kdB]; split) | (simp only [kvB]; split))
    · rw [decide_eq_false hb0] at f1
      have hi := hinf hb0
      have e1 : (F.inf false : Int) = (bd : Int) := by rw [hi]
      rw [e1] at i1
      generalize F.cls bd = cb at *
      simp only [zA, vlA] at *
      repeat' (first | (simp (maxSteps := 9^7) only [seval, exC, c_law27_PolyBound, ZB, o1, ev, g1, c1, h5, f1, i1, hK]) | (simp (maxSteps := 9^7) (disch := first | with_reducible assumption | omega) only [dxB]) | (simp only [kdB]; split) | (simp only [kvB]; split))
end Go.Cv
