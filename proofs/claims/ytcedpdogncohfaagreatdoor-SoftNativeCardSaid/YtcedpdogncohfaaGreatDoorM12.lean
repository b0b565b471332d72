/-
  A part of the proof of the statements of this seat (texts that the law's own text leans on): no condition.
-/
import Derived.Test.YtcedpdogncohfaaGreatDoorM11
import Derived.Test.YtcedpdogncohfaaGreatDoorM10
import Derived.Test.YtcedpdogncohfaaGreatDoorM9
import Derived.Test.YtcedpdogncohfaaGreatDoorM6
set_option linter.unusedVariables false
set_option linter.unusedSimpArgs false
namespace Go.Cv
variable {G : Nat → Option (List AV)} {T : Tbl} {g : Nat}
theorem isq_ex : ∀ X : Nat, ∃ r, r * r ≤ X ∧ X < (r + 1) * (r + 1) := by
  intro X
  induction X with
  | zero => exact ⟨0, by decide, by decide⟩
  | succ X ih =>
    obtain ⟨r, h1, h2⟩ := ih
    by_cases h : X + 1 < (r + 1) * (r + 1)
    · exact ⟨r, by omega, h⟩
    · refine ⟨r + 1, by omega, ?_⟩
      have : (r + 1) * (r + 1) < (r + 1 + 1) * (r + 1 + 1) := Nat.mul_lt_mul_of_lt_of_le (Nat.lt_succ_self _) (Nat.le_succ _) (by omega)
      omega
noncomputable def isq (X : Nat) : Nat := Classical.choose (isq_ex X)
theorem isq_spec (X : Nat) : isq X * isq X ≤ X ∧ X < (isq X + 1) * (isq X + 1) := Classical.choose_spec (isq_ex X)
def rootP (e : Int) : Nat := 130 + (e % 2).toNat
noncomputable def rootW (F : Fm) (md : Int) (d : Dy) : Nat × Nat :=
  sW F md false (isq (d.m * 2 ^ rootP d.e)) (!decide (isq (d.m * 2 ^ rootP d.e) * isq (d.m * 2 ^ rootP d.e) = d.m * 2 ^ rootP d.e)) ((d.e - (rootP d.e : Nat)) / 2)
theorem sh_fine {m P : Nat} {n : Int} (h : n ≤ P) : shN m n = m * 2 ^ P / 2 ^ ((P : Int) - n).toNat ∧ shB m n = !decide (m * 2 ^ P % 2 ^ ((P : Int) - n).toNat = 0) := by
  unfold shN shB
  by_cases h0 : 0 ≤ n
  · rw [if_pos h0, if_pos h0, div_pow_mul (by omega), mod_pow_mul (by omega), show P - ((P : Int) - n).toNat = n.toNat by omega]
    exact ⟨rfl, rfl⟩
  · rw [if_neg h0, if_neg h0, div_pow_mul2 (by omega), mod_pow_mul2 (by omega), show ((P : Int) - n).toNat - P = (-n).toNat by omega]
    have hp := Nat.two_pow_pos P
    refine ⟨rfl, ?_⟩
    congr 1
    refine decide_eq_decide.2 ?_
    constructor
    · intro h1; rw [h1, Nat.zero_mul]
    · intro h1
      rcases Nat.mul_eq_zero.1 h1 with h2 | h2
      · exact h2
      · omega
theorem rootW_sh (F : Fm) (md : Int) {m t : Nat} {e n c : Int} (h0 : n ≤ rootP e) (hc : e - n = 2 * c) (h1 : t * t ≤ shN m n) (h2 : shN m n < (t + 1) * (t + 1)) (hb : F.fr + 2 ≤ blen t) (s : Bool) :
    sW F md false t (shB m n || !decide (t * t = shN m n)) c = rootW F md ⟨s, m, e⟩ := by
  have hP : rootP e = 130 + (e % 2).toNat := rfl
  obtain ⟨e1, e2⟩ := sh_fine (m := m) h0
  obtain ⟨r1, r2⟩ := isq_spec (m * 2 ^ rootP e)
  have hj : ((rootP e : Nat) - n).toNat = 2 * (((rootP e : Nat) - n).toNat / 2) := by omega
  rw [hj] at e1 e2
  have h3 := sW_root F md false (X := m * 2 ^ rootP e) (r := isq (m * 2 ^ rootP e)) (t := t) (j := ((rootP e : Nat) - n).toNat / 2) ((e - (rootP e : Nat)) / 2) r1 r2 (by rw [← e1]; exact h1) (by rw [← e1]; exact h2) hb
  unfold rootW
  simp only
  rw [← h3, e2, e1, show (e - (rootP e : Nat)) / 2 + ((((rootP e : Nat) - n).toNat / 2 : Nat) : Int) = c by omega]
theorem round_Root (J : Al G T g) (F : Fm) {m : Int} (hm : 1 ≤ m ∧ m ≤ 5) {z : Bool} {d : Dy} (dd : mayD d.n (dl d.m) d.e = true) (h0 : d.m ≠ 0) (hs : d.n = false) :
    run G T 18 [.int .u8 F.u, .int .u8 m, DyA z d] = some (.tup [.int .u64 ((rootW F m d).1 : Int), .int .u8 ((rootW F m d).2 : Int), .int .i64 0]) := by
  rw [run_k G T J.E.round_Root]
  obtain ⟨f1, f2, f3, f4, f5⟩ := mayD_facts dd
  have o1 := round_open1 J F hm (n := d.n) (z := z) (Dg_dl d.m) (e := d.e)
  rw [dd, if_pos rfl] at o1
  have s1 := dyad_Sign J (n := d.n) (z := z) (Dg_dl d.m) (e := d.e)
  rw [sign_may dd, if_neg h0, hs, if_neg (by decide)] at s1
  have hbm := may_blen f1
  have hbp := blen_pos h0
  obtain ⟨n, hn⟩ : ∃ n : Int, n = 2 * ((64 : Nat) : Int) + 2 - blen d.m + (d.e - (2 * ((64 : Nat) : Int) + 2 - blen d.m)) % 2 := ⟨_, rfl⟩
  have hP : rootP d.e = 130 + (d.e % 2).toNat := rfl
  obtain ⟨c, hc⟩ : ∃ c : Int, d.e - n = 2 * c := ⟨(d.e - n) / 2, by omega⟩
  have hnP : n ≤ rootP d.e := by omega
  have hbs := shN_blen h0 (n := n) (by omega)
  obtain ⟨r, r1, r2⟩ := isq_ex (shN d.m n)
  have hrk : 64 < blen r := root_blen (k := 64) (r := r) (M := shN d.m n) (by
    have := pow_blen_le (n := shN d.m n) (by intro hc; rw [hc, blen_zero] at hbs; omega)
    rw [← Nat.pow_add]
    exact Nat.le_trans (Nat.pow_le_pow_right (by decide) (by omega)) this) r2
  obtain ⟨S, hS⟩ : ∃ S, blen r = 64 + S := ⟨blen r - 64, by omega⟩
  obtain ⟨zq, q1⟩ := dyad_Root J (z := z) (d := d) (k := 64) (S := S) (n := n) (c := c) (r := r) dd h0 hs (by omega) hn hc r1 r2 hS
  rw [show ((64 : Nat) : Int) = 64 from rfl] at q1
  have bS := blen_div r S
  have hb64 : blen (r / 2 ^ S) = 64 := by omega
  have hbr : blen r ≤ blen (shN d.m n) := blen_mono (Nat.le_trans (Nat.le_mul_self r) r1)
  have hF := fm_fr F
  have W : rootW F m d = partW F m false (r / 2 ^ S) (!decide (r % 2 ^ S = 0) || (shB d.m n || !decide (r * r = shN d.m n))) (c + S + 64) := by
    rw [partW_sW _ _ _ _ _ hb64]
    have h1 := rootW_sh F m (m := d.m) (t := r) (e := d.e) (n := n) (c := c) hnP hc r1 r2 (by omega) d.n
    have h2 := sW_shift F m false (Q := r) (j := S) (shB d.m n || !decide (r * r = shN d.m n)) c (by omega)
    simp only [ne_eq, decide_not] at h2
    rw [show rootW F m d = rootW F m ⟨d.n, d.m, d.e⟩ from rfl, ← h1, ← h2, Bool.or_comm, show c + (S : Int) + 64 - 64 = c + S by omega]
  rw [W]
  clear W bS hrk
  have hX : -10000000 < c + (S : Int) ∧ c + (S : Int) < 10000000 := by omega
  clear hnP hP hc hn hbs hbr r1 r2 hS hF
  generalize (!decide (r % 2 ^ S = 0) || (shB d.m n || !decide (r * r = shN d.m n))) = lost at *
  generalize c + (S : Int) = X at *
  generalize r / 2 ^ S = Q at *
  have hQ0 : Q ≠ 0 := by rintro rfl; rw [blen_zero] at hb64; omega
  obtain ⟨k1, k2, k3, k4, k5⟩ := mk_head (n := false) (e := X) hb64
  have hd := mkD_pos (n := false) (m := Q) hQ0 X
  have tq := tz_blen hQ0
  have hmm : mayL (dl (mkD false Q X).m) = true := mayL_small (by
    have := blen_div Q (tz Q)
    rw [hd]; simp only; omega)
  have p1 := round_partOf J (z := zq) (d := mkD false Q X) hmm k4 (by rw [hd]; simp only; omega)
  rw [k1, k2, k3] at p1
  have w1 := round_word J F hm (neg := false) (more := lost) (w := Q) (top := X + 64) hb64 (by omega)
  clear k1 k2 k3 k4 k5 hd tq hmm hb64 f1 f2 f3 f4 f5 dd hX hQ0 hbm hbp
  obtain ⟨ng, mm, e⟩ := d
  simp only at *
  subst hs
  simp only [DyA, A3, fmA, partA] at *
  cases lost <;> (
    repeat' (first | (simp (maxSteps := 9^7) only [seval, exC, c_round_Root, o1, s1, q1, p1, w1]) | (simp (maxSteps := 9^7) (disch := first | with_reducible assumption | omega) only [dxB]) | (simp only [kdB]; split) | (simp only [kvB]; split))
    all_goals try rfl)
theorem blen_mulT {x y a b : Nat} (hx : blen x ≤ a) (hy : blen y ≤ b) : blen (x * y) ≤ a + b := by
  refine blen_le.2 ?_
  rw [Nat.pow_add]
  exact Nat.mul_lt_mul_of_lt_of_lt (blen_le.1 hx) (blen_le.1 hy)
theorem mkD_odd {n : Bool} {m : Nat} {e : Int} (h : m % 2 = 1) : mkD n m e = ⟨n, m, e⟩ := by
  rw [mkD_pos (by omega), tz_odd h, Nat.pow_zero, Nat.div_one]; simp
theorem mkD_oddp {n : Bool} {m : Nat} {e : Int} (h : m % 2 = 1) (j : Nat) : mkD n (m * 2 ^ j) (e - j) = ⟨n, m, e⟩ := by
  have hp := Nat.two_pow_pos j
  have h0 : m * 2 ^ j ≠ 0 := by
    intro hc
    rcases Nat.mul_eq_zero.1 hc with h1 | h1 <;> omega
  rw [mkD_pos h0, tz_unique h, Nat.mul_div_cancel _ hp, show e - (j : Int) + j = e by omega]
theorem odd_mul {a b : Nat} (ha : a % 2 = 1) (hb : b % 2 = 1) : a * b % 2 = 1 := by rw [Nat.mul_mod, ha, hb]
theorem quo_prod (F : Fm) (md : Int) {n n' : Bool} {m m' : Nat} {e e' : Int} (ho : m % 2 = 1) (ho' : m' % 2 = 1) : quoW F md (mkD (n != n') (m * m') (e + e')) ⟨n', m', e'⟩ = rndW F md ⟨n, m, e⟩ := by
  have hF := fm_fr F
  rw [mkD_odd (odd_mul ho ho')]
  unfold quoW
  simp only
  have hq := quo_blen (k := 64) (a := m * m') (b := m') (by have := odd_mul ho ho'; omega) (by omega)
  generalize quoN 64 (m * m') m' = N at *
  have e1 : m * m' * 2 ^ N = m * 2 ^ N * m' := by rw [Nat.mul_assoc, Nat.mul_assoc, Nat.mul_comm m']
  rw [e1, Nat.mul_div_cancel _ (by omega), Nat.mul_mod_left]
  rw [e1, Nat.mul_div_cancel _ (by omega)] at hq
  have h1 := rndW_mk F md n (M := m * 2 ^ N) (e - N) (by omega)
  rw [mkD_oddp ho] at h1
  rw [h1, show e + e' - e' - (N : Int) = e - N by omega]
  cases n <;> cases n' <;> rfl
def Fm.nan (F : Fm) : Nat := F.most * 2 ^ F.fr + 2 ^ (F.fr - 1)
theorem w_split {F : Fm} {w : Nat} (h : w < 2 * F.sg) : w = w % F.sg + F.sgn (F.ng w) ∧ w % F.sg = 2 ^ F.fr * F.ex w + F.fc w ∧ F.fc w < 2 ^ F.fr ∧ F.ex w ≤ F.most := by
  have hp := Nat.two_pow_pos F.fr
  have hsg : F.sg = 2 ^ F.fr * (F.most + 1) := by cases F <;> decide
  have h0 : 0 < F.sg := by cases F <;> decide
  refine ⟨?_, (Nat.div_add_mod _ _).symm, Nat.mod_lt _ hp, ?_⟩
  · unfold Fm.ng Fm.sgn
    by_cases h1 : F.sg ≤ w
    · rw [decide_eq_true h1, if_pos rfl, Nat.mod_eq_sub_mod h1, Nat.mod_eq_of_lt (by omega)]; omega
    · rw [decide_eq_false h1, if_neg (by decide), Nat.mod_eq_of_lt (by omega)]; rfl
  · have h1 := Nat.mod_lt w h0
    have : w % F.sg / 2 ^ F.fr < F.most + 1 := Nat.div_lt_of_lt_mul (by rw [← hsg]; exact h1)
    unfold Fm.ex; omega
theorem cls_range (F : Fm) (w : Nat) : F.cls w = 1 ∨ F.cls w = 2 ∨ F.cls w = 3 ∨ F.cls w = 4 ∨ F.cls w = 5 := by
  unfold Fm.cls; repeat' split
  all_goals omega
theorem cls_one {F : Fm} {w : Nat} (h : w < 2 * F.sg) : F.cls w = 1 ↔ w % F.sg = 0 := by
  obtain ⟨h1, h2, h3, h4⟩ := w_split h
  have hp := Nat.two_pow_pos F.fr
  rw [h2]
  unfold Fm.cls
  generalize F.ex w = x at *
  generalize F.fc w = y at *
  constructor
  · intro hc
    have hx : x = 0 ∧ y = 0 := by
      by_cases a : x = 0
      · by_cases b : y = 0
        · exact ⟨a, b⟩
        · rw [if_pos a, if_neg b] at hc; omega
      · rw [if_neg a] at hc
        split at hc
        · omega
        · split at hc <;> omega
    rw [hx.1, hx.2]; rfl
  · intro hc
    have hy : y = 0 := by omega
    have hx : x = 0 := by
      rcases Nat.mul_eq_zero.1 (show 2 ^ F.fr * x = 0 by omega) with q | q
      · omega
      · exact q
    rw [if_pos hx, if_pos hy]
theorem cls_four {F : Fm} {w : Nat} (h : w < 2 * F.sg) : F.cls w = 4 ↔ w % F.sg = F.most * 2 ^ F.fr := by
  obtain ⟨h1, h2, h3, h4⟩ := w_split h
  have hp := Nat.two_pow_pos F.fr
  have hm0 : 0 < F.most := by cases F <;> decide
  rw [h2]
  unfold Fm.cls
  generalize F.ex w = x at *
  generalize F.fc w = y at *
  constructor
  · intro hc
    by_cases a : x = 0
    · rw [if_pos a] at hc; split at hc <;> omega
    · rw [if_neg a] at hc
      by_cases b : x < F.most
      · rw [if_pos b] at hc; omega
      · rw [if_neg b] at hc
        by_cases c : y = 0
        · rw [c, show x = F.most by omega, Nat.mul_comm]; rfl
        · rw [if_neg c] at hc; omega
  · intro hc
    have hx : x = F.most := by
      rcases Nat.lt_or_ge x F.most with q | q
      · have := Nat.mul_le_mul_left (2 ^ F.fr) q
        rw [Nat.mul_succ, Nat.mul_comm (2 ^ F.fr) F.most] at this
        omega
      · omega
    have hy : y = 0 := by rw [hx, Nat.mul_comm] at hc; omega
    rw [if_neg (by omega), if_neg (by omega), if_pos hy]
theorem cls_zero_w {F : Fm} {w : Nat} (h : w < 2 * F.sg) (hc : F.cls w = 1) : w = F.sgn (F.ng w) ∧ F.val w = ⟨false, 0, 0⟩ := by
  have h1 := (w_split h).1
  rw [(cls_one h).1 hc, Nat.zero_add] at h1
  refine ⟨h1, ?_⟩
  rw [h1]
  have := val_zero F (F.ng w)
  rw [Nat.zero_add] at this
  exact this
theorem cls_inf_w {F : Fm} {w : Nat} (h : w < 2 * F.sg) (hc : F.cls w = 4) : w = F.inf (F.ng w) := by
  have h1 := (w_split h).1
  rw [(cls_four h).1 hc] at h1
  exact h1
theorem val_cls {F : Fm} {w : Nat} (h : w < 2 * F.sg) (h1 : F.cls w ≠ 1) (h2 : F.fin w) : (F.val w).m ≠ 0 := by
  obtain ⟨s, n, hw, q1, q2, q3⟩ := word_parts h
  have h0 : s ≠ 0 := by
    rintro rfl
    apply h1
    rw [cls_one h, hw]
    exact (sgn_mod n q1).1
  rw [hw]; exact (round_val F 1 n (q2 h2) h0).2
theorem val_neg_cls {F : Fm} {w : Nat} (h : w < 2 * F.sg) (h1 : F.cls w ≠ 1) (h2 : F.fin w) : (F.val w).n = F.ng w := by
  have h3 := val_cls h h1 h2
  unfold Fm.val at h3 ⊢
  by_cases hx : F.ex w = 0
  · rw [if_pos hx] at h3 ⊢
    by_cases hk : F.fc w = 0
    · rw [hk] at h3; exact absurd rfl h3
    · rw [mkD_pos hk]
  · rw [if_neg hx] at h3 ⊢
    by_cases hk : 2 ^ F.fr + F.fc w = 0
    · rw [hk] at h3; exact absurd rfl h3
    · rw [mkD_pos hk]
def sumW (F : Fm) (md : Int) (d : Dy) : Nat × Nat := if d.m = 0 then (F.sgn (decide (md = 5)), 0) else rndW F md d
def addP (F : Fm) (md : Int) (c : Int) (n : Bool) (d : Dy) (c' : Int) (n' : Bool) (d' : Dy) : Nat × Nat :=
  if c = 5 ∨ c' = 5 then (F.nan, 0)
  else if c = 4 ∧ c' = 4 ∧ n ≠ n' then (F.nan, 1)
  else if c = 4 then (F.inf n, 0)
  else if c' = 4 then (F.inf n', 0)
  else if c = 1 ∧ c' = 1 ∧ n = n' then (F.sgn n, 0)
  else sumW F md (addD d d')
def mulD (a b : Dy) : Dy := mkD (a.n != b.n) (a.m * b.m) (a.e + b.e)
def mulP (F : Fm) (md : Int) (c : Int) (n : Bool) (d : Dy) (c' : Int) (n' : Bool) (d' : Dy) : Nat × Nat :=
  if c = 5 ∨ c' = 5 then (F.nan, 0)
  else if (c = 4 ∨ c' = 4) ∧ (c = 1 ∨ c' = 1) then (F.nan, 1)
  else if c = 4 ∨ c' = 4 then (F.inf (n != n'), 0)
  else if c = 1 ∨ c' = 1 then (F.sgn (n != n'), 0)
  else sumW F md (mulD d d')
def divP (F : Fm) (md : Int) (c : Int) (n : Bool) (d : Dy) (c' : Int) (n' : Bool) (d' : Dy) : Nat × Nat :=
  if c = 5 ∨ c' = 5 then (F.nan, 0)
  else if c = c' ∧ (c = 1 ∨ c = 4) then (F.nan, 1)
  else if c = 4 then (F.inf (n != n'), 0)
  else if c' = 1 then (F.inf (n != n'), 2)
  else if c = 1 ∨ c' = 4 then (F.sgn (n != n'), 0)
  else quoW F md d d'
def Fm.vl (F : Fm) (w : Nat) : Dy := if F.fin w then F.val w else ⟨false, 0, 0⟩
def addW (F : Fm) (md : Int) (a b : Nat) : Nat × Nat := addP F md (F.cls a) (F.ng a) (F.vl a) (F.cls b) (F.ng b) (F.vl b)
def subW (F : Fm) (md : Int) (a b : Nat) : Nat × Nat := addP F md (F.cls a) (F.ng a) (F.vl a) (F.cls b) (!F.ng b) (negD (F.vl b))
def mulW2 (F : Fm) (md : Int) (a b : Nat) : Nat × Nat := mulP F md (F.cls a) (F.ng a) (F.vl a) (F.cls b) (F.ng b) (F.vl b)
def divW2 (F : Fm) (md : Int) (a b : Nat) : Nat × Nat := divP F md (F.cls a) (F.ng a) (F.vl a) (F.cls b) (F.ng b) (F.vl b)
noncomputable def sqrtW (F : Fm) (md : Int) (a : Nat) : Nat × Nat :=
  if F.cls a = 5 then (F.nan, 0) else if F.cls a = 1 then (F.sgn (F.ng a), 0) else if F.ng a then (F.nan, 1) else if F.cls a = 4 then (F.inf false, 0) else rootW F md (F.vl a)
def prC (c c' : Int) : Int := if c = 4 ∨ c' = 4 then 4 else if c = 1 ∨ c' = 1 then 1 else 3
def fmaW (F : Fm) (md : Int) (a b c : Nat) : Nat × Nat :=
  if F.cls a = 5 ∨ F.cls b = 5 ∨ F.cls c = 5 then (F.nan, 0)
  else if (F.cls a = 4 ∨ F.cls b = 4) ∧ (F.cls a = 1 ∨ F.cls b = 1) then (F.nan, 1)
  else addP F md (prC (F.cls a) (F.cls b)) (F.ng a != F.ng b) (if prC (F.cls a) (F.cls b) = 3 then mulD (F.vl a) (F.vl b) else ⟨false, 0, 0⟩) (F.cls c) (F.ng c) (F.vl c)
theorem addD_comm {a b : Dy} (ha : Nz a) (hb : Nz b) : addD a b = addD b a := by
  unfold addD
  by_cases h1 : a.m = 0
  · by_cases h2 : b.m = 0
    · rw [if_pos h1, if_pos h2, ha.1 h1, hb.1 h2]
    · rw [if_pos h1, if_neg h2, if_pos h1]
  · by_cases h2 : b.m = 0
    · rw [if_neg h1, if_pos h2, if_pos h2]
    · rw [if_neg h1, if_neg h2, if_neg h2, if_neg h1, Int.min_comm b.e a.e]
      generalize a.m * 2 ^ (a.e - min a.e b.e).toNat = x
      generalize b.m * 2 ^ (b.e - min a.e b.e).toNat = y
      by_cases h3 : a.n = b.n
      · rw [if_pos h3, if_pos h3.symm, h3, Nat.add_comm]
      · rw [if_neg h3, if_neg (show ¬ b.n = a.n from fun h => h3 h.symm)]
        by_cases h4 : y ≤ x
        · by_cases h5 : x ≤ y
          · rw [if_pos h4, if_pos h5, show x = y by omega, Nat.sub_self]; rfl
          · rw [if_pos h4, if_neg h5]
        · rw [if_neg h4, if_pos (by omega)]
def Fm.flip (F : Fm) (w : Nat) : Nat := w % F.sg + F.sgn (!F.ng w)
theorem Nz_vl (F : Fm) (w : Nat) : Nz (F.vl w) := by
  unfold Fm.vl; split
  · unfold Fm.val; split <;> exact Nz_mk _ _ _
  · exact ⟨fun _ => rfl, fun h => absurd rfl h⟩
theorem Bd_vl (F : Fm) (w : Nat) : Bd (F.vl w) 4096 := by
  unfold Fm.vl; split
  · rename_i h; exact Bd_val F h
  · exact ⟨by simp only [blen_zero]; omega, by simp, by simp⟩
theorem fin_iff {F : Fm} {w : Nat} : F.fin w ↔ F.cls w = 1 ∨ F.cls w = 2 ∨ F.cls w = 3 := by
  have h1 := fin_cls F w
  have h2 := cls_range F w
  constructor
  · intro h; have := h1.1 h; omega
  · intro h; exact h1.2 (by omega)
theorem val_set_take {l : List Nat} {i v : Nat} (h : i < l.length) : val ((l.set i v).take (i + 1)) = val (l.take i) + 4294967296 ^ i * v := by
  rw [val_take_succ', List.take_set_of_le (Nat.le_refl i)]
  congr 2
  rw [dg_lt (by rw [List.length_set]; exact h), List.getElem_set_self]
theorem nAdd_loop (J : Al G T g) {A B : List Nat} {z y : Bool} {b : Nat} (hA : Dg A) (hB : Dg B) (hs : A.length < 17179869184) (ht : B.length ≤ A.length) : ∀ (m i : Nat) (h : Heap) (l : List Nat) (c : Nat),
    m + i = A.length → Holds h b l → Dg l → l.length = A.length + 1 → c ≤ 1 → val (l.take i) + 4294967296 ^ i * c = val (A.take i) + val (B.take i) →
    Post (evL G T c_nat_Add_l1 [(0, D z A), (1, D y B), (6, .own b 0 (A.length + 1) 1), (7, .int .u32 (c : Int)), (27, .int .i64 ((A.length : Nat) : Int)), (28, .int .i64 (i : Int))] h) fun r =>
      ∃ e h' l' c', r = (.exit 0, (0, D z A) :: (1, D y B) :: (6, .own b 0 (A.length + 1) 1) :: (7, .int .u32 ((c' : Nat) : Int)) :: e, h') ∧ Holds h' b l' ∧ Dg l' ∧ l'.length = A.length + 1 ∧ c' ≤ 1 ∧ val (l'.take A.length) + 4294967296 ^ A.length * c' = val A + val B
  | 0, i, h, l, c, hm, H, hd, hl, hc, he => by
    rw [s_loopc G T (c := c_nat_Add_l1) rfl]
    have h1 : ¬ (i : Int) < (A.length : Int) := by omega
    repeat (first | (simp (maxSteps := 9^7) only [seval, evB, c_nat_Add_b1, h1]) | (simp (disch := omega) only [dsB]))
    obtain rfl : i = A.length := by omega
    rw [List.take_length, List.take_of_length_le ht] at he
    exact Post.some ⟨_, _, _, _, rfl, H, hd, hl, hc, he⟩
  | m + 1, i, h, l, c, hm, H, hd, hl, hc, he => by
    rw [s_loopc G T (c := c_nat_Add_l1) rfl]
    have h1 : (i : Int) < (A.length : Int) := by omega
    have e7 : (i : Int) + 1 = ((i + 1 : Nat) : Int) := by omega
    have hx := hA.dg i
    have hy := hB.dg i
    have hil : i < l.length := by omega
    have hb := bits_Add32 J (x := dg A i) (y := dg B i) (w := c) (d := (dg A i + dg B i + c) % 4294967296) (z := (dg A i + dg B i + c) / 4294967296) hx hy hc (Nat.mod_lt _ (by decide)) (by omega) (by omega)
    have key : val ((l.set i ((dg A i + dg B i + c) % 4294967296)).take (i + 1)) + 4294967296 ^ (i + 1) * ((dg A i + dg B i + c) / 4294967296) = val (A.take (i + 1)) + val (B.take (i + 1)) := by
      rw [val_set_take hil, val_take_succ', val_take_succ', Nat.pow_succ, Nat.mul_assoc, Nat.add_assoc, ← Nat.mul_add, Nat.mod_add_div, Nat.mul_add, Nat.mul_add]
      omega
    have hz : (dg A i + dg B i + c) / 4294967296 ≤ 1 := by omega
    have hm1 : (dg A i + dg B i + c) % 4294967296 < 4294967296 := Nat.mod_lt _ (by decide)
    by_cases h2 : (i : Int) < (B.length : Int)
    · repeat (first | (simp (maxSteps := 9^7) only [seval, evB, c_nat_Add_b1, h1, h2, hb, e7 ]) | (simp (disch := omega) only [dsB,  store_n H]))
      exact nAdd_loop J hA hB hs ht m (i + 1) _ _ _ (by omega) (H.put _) (Dg_set hd hm1) (by rw [List.length_set]; exact hl) hz key
    · have hg : dg B i = 0 := dg_ge (by omega)
      rw [hg] at hb key hz hm1
      rw [cast0] at hb
      repeat (first | (simp (maxSteps := 9^7) only [seval, evB, c_nat_Add_b1, h1, h2, hb, e7 ]) | (simp (disch := omega) only [dsB,  store_n H]))
      exact nAdd_loop J hA hB hs ht m (i + 1) _ _ _ (by omega) (H.put _) (Dg_set hd hm1) (by rw [List.length_set]; exact hl) hz key
theorem nSub_loop (J : Al G T g) {A B : List Nat} {z y : Bool} {b : Nat} (hA : Dg A) (hB : Dg B) (hs : A.length < 17179869184) (ht : B.length ≤ A.length) : ∀ (m i : Nat) (h : Heap) (l : List Nat) (c : Nat),
    m + i = A.length → Holds h b l → Dg l → l.length = A.length → c ≤ 1 → val (l.take i) + val (B.take i) = val (A.take i) + 4294967296 ^ i * c →
    Post (evL G T c_nat_sub_l1 [(0, D z A), (1, D y B), (5, .own b 0 A.length 1), (6, .int .u32 (c : Int)), (13, .int .i64 ((A.length : Nat) : Int)), (14, .int .i64 (i : Int))] h) fun r =>
      ∃ e h' l' c', r = (.exit 0, (0, D z A) :: (1, D y B) :: (5, .own b 0 A.length 1) :: (6, .int .u32 ((c' : Nat) : Int)) :: e, h') ∧ Holds h' b l' ∧ Dg l' ∧ l'.length = A.length ∧ c' ≤ 1 ∧ val l' + val B = val A + 4294967296 ^ A.length * c'
  | 0, i, h, l, c, hm, H, hd, hl, hc, he => by
    rw [s_loopc G T (c := c_nat_sub_l1) rfl]
    have h1 : ¬ (i : Int) < (A.length : Int) := by omega
    repeat (first | (simp (maxSteps := 9^7) only [seval, evB, c_nat_sub_b1, h1]) | (simp (disch := omega) only [dsB]))
    obtain rfl : i = A.length := by omega
    rw [List.take_length, List.take_of_length_le ht, List.take_of_length_le (by omega)] at he
    exact Post.some ⟨_, _, _, _, rfl, H, hd, hl, hc, he⟩
  | m + 1, i, h, l, c, hm, H, hd, hl, hc, he => by
    rw [s_loopc G T (c := c_nat_sub_l1) rfl]
    have h1 : (i : Int) < (A.length : Int) := by omega
    have e7 : (i : Int) + 1 = ((i + 1 : Nat) : Int) := by omega
    have hx := hA.dg i
    have hy := hB.dg i
    have hil : i < l.length := by omega
    obtain ⟨d, q, hdq, hd1, hq⟩ : ∃ d q, d + dg B i + c = dg A i + 4294967296 * q ∧ d < 4294967296 ∧ q ≤ 1 := by
      by_cases hlt : dg A i < dg B i + c
      · exact ⟨dg A i + 4294967296 - (dg B i + c), 1, by omega, by omega, by omega⟩
      · exact ⟨dg A i - (dg B i + c), 0, by omega, by omega, by omega⟩
    have hb := bits_Sub32 J (x := dg A i) (y := dg B i) (w := c) (d := d) (z := q) hx hy hc hd1 hq hdq
    have key : val ((l.set i d).take (i + 1)) + val (B.take (i + 1)) = val (A.take (i + 1)) + 4294967296 ^ (i + 1) * q := by
      rw [val_set_take hil, val_take_succ', val_take_succ', Nat.pow_succ, Nat.mul_assoc]
      have h2 : 4294967296 ^ i * d + 4294967296 ^ i * dg B i + 4294967296 ^ i * c = 4294967296 ^ i * dg A i + 4294967296 ^ i * (4294967296 * q) := by
        rw [← Nat.mul_add, ← Nat.mul_add, ← Nat.mul_add, hdq]
      omega
    by_cases h2 : (i : Int) < (B.length : Int)
    · repeat (first | (simp (maxSteps := 9^7) only [seval, evB, c_nat_sub_b1, h1, h2, hb, e7 ]) | (simp (disch := omega) only [dsB,  store_n H]))
      exact nSub_loop J hA hB hs ht m (i + 1) _ _ _ (by omega) (H.put _) (Dg_set hd hd1) (by rw [List.length_set]; exact hl) hq key
    · have hg : dg B i = 0 := dg_ge (by omega)
      rw [hg, cast0] at hb
      repeat (first | (simp (maxSteps := 9^7) only [seval, evB, c_nat_sub_b1, h1, h2, hb, e7 ]) | (simp (disch := omega) only [dsB,  store_n H]))
      exact nSub_loop J hA hB hs ht m (i + 1) _ _ _ (by omega) (H.put _) (Dg_set hd hd1) (by rw [List.length_set]; exact hl) hq key
theorem nat_bound (J : Al G T g) {z : Bool} {l : List Nat} (h : l.length ≤ 4096) : run G T 117 [D z l] = some (.tup [D z l, .int .i64 0]) := by
  rw [run_k G T J.A.nat_bound]
  have h1 : ¬ (4096 : Int) < (l.length : Int) := by omega
  repeat (first | (simp (maxSteps := 9^7) only [seval, evB, c_nat_bound, h1]) | (simp (disch := omega) only [dsB]))
theorem nat_sub (J : Al G T g) {z y : Bool} {a b : Nat} (ha : (dl a).length < 17179869184) (hab : b ≤ a) : ∃ z', run G T 116 [D z (dl a), D y (dl b)] = some (D z' (dl (a - b))) := by
  have hlen : (dl b).length ≤ (dl a).length := by
    rw [dl_len]; exact Nat.lt_of_le_of_lt hab (dl_len.1 (Nat.le_refl _))
  obtain ⟨_, hr, e, h', l', c', rfl, H, hd, hl, hc, hv⟩ := nSub_loop (G := G) (T := T) (z := z) (y := y) (b := Heap.nil.b.length) J (Dg_dl a) (Dg_dl b) ha hlen (dl a).length 0 (new .nil (List.replicate (dl a).length 0)) _ 0 (by omega) (Holds_new FreH.nil _) (Dg_rep _) (by rw [List.length_replicate]) (by omega) (by simp [val])
  rw [cast0] at hr
  rw [val_dl, val_dl] at hv
  have hlt := val_lt hd
  have hc0 : c' = 0 := by
    rcases Nat.eq_zero_or_pos c' with q | q
    · exact q
    · have : c' = 1 := by omega
      rw [this, Nat.mul_one, ← hl] at hv; omega
  rw [hc0, Nat.mul_zero, Nat.add_zero] at hv
  have hv2 : val l' = a - b := by omega
  have hsn := snap_own H (n := (dl a).length) (by omega)
  rw [← hl, List.take_length] at hsn
  obtain ⟨z', hz⟩ := nat_trim J (z := false) hd (by omega)
  rw [hl] at hsn
  refine ⟨z', ?_⟩
  rw [run_k G T J.A.nat_sub, ← hv2]
  repeat (first | (simp (maxSteps := 9^7) only [seval, evB, c_nat_sub, hr, hsn, hz]) | (simp (disch := omega) only [dsB]))
theorem nat_Sub (J : Al G T g) {z y : Bool} {a b : Nat} (ha : mayL (dl a) = true) (hb : mayL (dl b) = true) (hab : b ≤ a) : ∃ z', run G T 103 [D z (dl a), D y (dl b)] = some (.tup [D z' (dl (a - b)), .int .i64 0]) := by
  have la := (mayL_iff.1 ha).1
  have lb := (mayL_iff.1 hb).1
  have h1 := nat_all (G := G) J (z := z) (y := y) (a := dl a) (b := dl b)
  rw [ha, hb, Bool.and_self] at h1
  have h2 := nat_cmp (G := G) J (z := z) (y := y) (a := a) (b := b) (by omega) (by omega)
  have h3 : ¬ cmpN a b < 0 := by rw [cmpN_neg]; omega
  obtain ⟨z', h4⟩ := nat_sub J (z := z) (y := y) (a := a) (b := b) (by omega) hab
  refine ⟨z', ?_⟩
  rw [run_k G T J.A.nat_Sub]
  repeat' (first | (simp (maxSteps := 9^7) only [seval, exC, c_nat_Sub, h1, h2, h3, h4]) | (simp (maxSteps := 9^7) (disch := first | with_reducible assumption | omega) only [dxB]) | (simp only [kdB]; split) | (simp only [kvB]; split))
theorem nat_Cmp (J : Al G T g) {z y : Bool} {a b : Nat} (ha : mayL (dl a) = true) (hb : mayL (dl b) = true) : run G T 104 [D z (dl a), D y (dl b)] = some (.tup [.int .i64 (cmpN a b), .int .i64 0]) := by
  have la := (mayL_iff.1 ha).1
  have lb := (mayL_iff.1 hb).1
  have h1 := nat_all (G := G) J (z := z) (y := y) (a := dl a) (b := dl b)
  rw [ha, hb, Bool.and_self] at h1
  have h2 := nat_cmp (G := G) J (z := z) (y := y) (a := a) (b := b) (by omega) (by omega)
  rw [run_k G T J.A.nat_Cmp]
  repeat' (first | (simp (maxSteps := 9^7) only [seval, exC, c_nat_Cmp, h1, h2]) | (simp (maxSteps := 9^7) (disch := first | with_reducible assumption | omega) only [dxB]) | (simp only [kdB]; split) | (simp only [kvB]; split))
theorem nat_Add_ord (J : Al G T g) {z y : Bool} {a b : Nat} (ha : mayL (dl a) = true) (hb : mayL (dl b) = true) (hab : (dl b).length ≤ (dl a).length) (hs : (dl (a + b)).length ≤ 4096) : ∃ z', run G T 105 [D z (dl a), D y (dl b)] = some (.tup [D z' (dl (a + b)), .int .i64 0]) := by
  have la := (mayL_iff.1 ha).1
  have lb := (mayL_iff.1 hb).1
  have h1 := nat_all (G := G) J (z := z) (y := y) (a := dl a) (b := dl b)
  rw [ha, hb, Bool.and_self] at h1
  have h2 : ¬ ((dl a).length : Int) < ((dl b).length : Int) := by omega
  obtain ⟨_, hr, e, h', l', c', rfl, H, hd, hl, hc, hv⟩ := nAdd_loop (G := G) (T := T) (z := z) (y := y) (b := 1) J (Dg_dl a) (Dg_dl b) (by omega) hab (dl a).length 0 (new ⟨[⟨[D z (dl a), D y (dl b)], false⟩], fz1 (AV.bool true) [0]⟩ (List.replicate ((dl a).length + 1) 0)) _ 0 (by omega) (Holds_new (h := ⟨[⟨[D z (dl a), D y (dl b)], false⟩], fz1 (AV.bool true) [0]⟩) (fun _ h => absurd h List.not_mem_nil) _) (Dg_rep _) (by rw [List.length_replicate]) (by omega) (by simp [val])
  rw [cast0] at hr
  rw [val_dl, val_dl] at hv
  have hil : (dl a).length < l'.length := by omega
  have hvs := val_set_take (v := c') hil
  rw [hv, List.take_of_length_le (by rw [List.length_set]; omega)] at hvs
  have H2 := H.put (l'.set (dl a).length c')
  have hd2 : Dg (l'.set (dl a).length c') := Dg_set hd (by omega)
  have hl2 : (l'.set (dl a).length c').length = (dl a).length + 1 := by rw [List.length_set]; exact hl
  have hsn := snap_own H2 (n := (dl a).length + 1) (by omega)
  rw [← hl2, List.take_length] at hsn
  obtain ⟨z', hz⟩ := nat_trim J (z := false) hd2 (by omega)
  rw [hl2] at hsn
  rw [hvs] at hz
  have hbd := nat_bound J (z := z') hs
  have e8 : ((dl a).length : Int) + 1 = (((dl a).length + 1 : Nat) : Int) := by omega
  refine ⟨z', ?_⟩
  rw [run_k G T J.A.nat_Add]
  repeat' (first | (simp (maxSteps := 9^7) only [seval, exC, c_nat_Add, h1, h2, e8, hr, hsn, hz, hbd ]) | (simp (maxSteps := 9^7) (disch := first | with_reducible assumption | omega) only [dxB,  store_n H]) | (simp only [kdB]; split) | (simp only [kvB]; split))
theorem nat_Add (J : Al G T g) {z y : Bool} {a b : Nat} (ha : mayL (dl a) = true) (hb : mayL (dl b) = true) (hs : (dl (a + b)).length ≤ 4096) : ∃ z', run G T 105 [D z (dl a), D y (dl b)] = some (.tup [D z' (dl (a + b)), .int .i64 0]) := by
  have la := (mayL_iff.1 ha).1
  have lb := (mayL_iff.1 hb).1
  by_cases hab : (dl b).length ≤ (dl a).length
  · exact nat_Add_ord J ha hb hab hs
  have h1 := nat_all (G := G) J (z := z) (y := y) (a := dl a) (b := dl b)
  rw [ha, hb, Bool.and_self] at h1
  have h2 : ((dl a).length : Int) < ((dl b).length : Int) := by omega
  obtain ⟨_, hr, e, h', l', c', rfl, H, hd, hl, hc, hv⟩ := nAdd_loop (G := G) (T := T) (z := y) (y := z) (b := 1) J (Dg_dl b) (Dg_dl a) (by omega) (by omega) (dl b).length 0 (new ⟨[⟨[D z (dl a), D y (dl b)], false⟩], fz1 (AV.bool true) [0]⟩ (List.replicate ((dl b).length + 1) 0)) _ 0 (by omega) (Holds_new (h := ⟨[⟨[D z (dl a), D y (dl b)], false⟩], fz1 (AV.bool true) [0]⟩) (fun _ h => absurd h List.not_mem_nil) _) (Dg_rep _) (by rw [List.length_replicate]) (by omega) (by simp [val])
  rw [cast0] at hr
  rw [val_dl, val_dl, Nat.add_comm b a] at hv
  have hil : (dl b).length < l'.length := by omega
  have hvs := val_set_take (v := c') hil
  rw [hv, List.take_of_length_le (by rw [List.length_set]; omega)] at hvs
  have H2 := H.put (l'.set (dl b).length c')
  have hd2 : Dg (l'.set (dl b).length c') := Dg_set hd (by omega)
  have hl2 : (l'.set (dl b).length c').length = (dl b).length + 1 := by rw [List.length_set]; exact hl
  have hsn := snap_own H2 (n := (dl b).length + 1) (by omega)
  rw [← hl2, List.take_length] at hsn
  obtain ⟨z', hz⟩ := nat_trim J (z := false) hd2 (by omega)
  rw [hl2] at hsn
  rw [hvs] at hz
  have hbd := nat_bound J (z := z') hs
  have e8 : ((dl b).length : Int) + 1 = (((dl b).length + 1 : Nat) : Int) := by omega
  refine ⟨z', ?_⟩
  rw [run_k G T J.A.nat_Add]
  repeat' (first | (simp (maxSteps := 9^7) only [seval, exC, c_nat_Add, h1, h2, e8, hr, hsn, hz, hbd ]) | (simp (maxSteps := 9^7) (disch := first | with_reducible assumption | omega) only [dxB,  store_n H]) | (simp only [kdB]; split) | (simp only [kvB]; split))
theorem blen_mulC {x y a b : Nat} (hx : blen x ≤ a) (hy : blen y ≤ b) : blen (x * y) ≤ a + b := by
  refine blen_le.2 ?_
  rw [Nat.pow_add]
  exact Nat.mul_lt_mul_of_lt_of_lt (blen_le.1 hx) (blen_le.1 hy)
theorem nat_Mul (J : Al G T g) {z y : Bool} {a b : Nat} (ha : mayL (dl a) = true) (hb : mayL (dl b) = true) (hs : (dl a).length + (dl b).length ≤ 4096) : ∃ z', run G T 197 [D z (dl a), D y (dl b)] = some (.tup [D z' (dl (a * b)), .int .i64 0]) := by
  have h1 := nat_all (G := G) J (z := z) (y := y) (a := dl a) (b := dl b)
  rw [ha, hb, Bool.and_self] at h1
  obtain ⟨z', h2⟩ := nat_mul J (z := z) (y := y) (a := a) (b := b) (by omega)
  have hl : (dl (a * b)).length ≤ 4096 := by
    have e1 := dl_len.1 (Nat.le_refl (dl a).length)
    have e2 := dl_len.1 (Nat.le_refl (dl b).length)
    have : (dl (a * b)).length ≤ (dl a).length + (dl b).length := by
      rw [dl_len, Nat.pow_add]; exact Nat.mul_lt_mul_of_lt_of_lt e1 e2
    omega
  have h3 := nat_bound J (z := z') hl
  have c1 : ¬ (4096 : Int) < ((dl a).length : Int) + ((dl b).length : Int) - 1 := by omega
  refine ⟨z', ?_⟩
  rw [run_k G T J.U.nat_Mul]
  by_cases k1 : (0 : Int) < ((dl a).length : Int)
  · by_cases k2 : (0 : Int) < ((dl b).length : Int)
    · repeat' (first | (simp (maxSteps := 9^7) only [seval, exC, c_nat_Mul, h1, h2, h3, c1, k1, k2]) | (simp (maxSteps := 9^7) (disch := first | with_reducible assumption | omega) only [dxB]) | (simp only [kdB]; split) | (simp only [kvB]; split))
    · repeat' (first | (simp (maxSteps := 9^7) only [seval, exC, c_nat_Mul, h1, h2, h3, c1, k1, k2]) | (simp (maxSteps := 9^7) (disch := first | with_reducible assumption | omega) only [dxB]) | (simp only [kdB]; split) | (simp only [kvB]; split))
  · repeat' (first | (simp (maxSteps := 9^7) only [seval, exC, c_nat_Mul, h1, h2, h3, c1, k1]) | (simp (maxSteps := 9^7) (disch := first | with_reducible assumption | omega) only [dxB]) | (simp only [kdB]; split) | (simp only [kvB]; split))
theorem dyad_own (J : Al G T g) {n z : Bool} {l : List Nat} {e : Int} (hl : l.length < 549755813888) : ∃ z', run G T 205 [A3 n (D z l) e] = some (A3 n (D z' l) e) := by
  apply exP
  rw [run_k G T J.U.dyad_own]
  cases l with
  | nil =>
    simp only [A3] at *
    repeat' (first | (simp (maxSteps := 9^7) only [seval, exC, c_dyad_own, app_nil0]) | (simp (maxSteps := 9^7) (disch := first | with_reducible assumption | omega) only [dxB]) | (simp only [kdB]; split) | (simp only [kvB]; split))
    exact ⟨_, rfl, true, rfl⟩
  | cons a l =>
    have ha : appV ⟨[⟨[.bool n, D z (a :: l), .int .i64 e], false⟩, ⟨[.bool false, .nil, .int .i64 0], false⟩], []⟩ 1 4 .nil (D z (a :: l)) =
        some (.own 2 0 (a :: l).length 1, ⟨[⟨[.bool n, D z (a :: l), .int .i64 e], false⟩, ⟨[.bool false, .nil, .int .i64 0], false⟩, ⟨cells (a :: l), false⟩], []⟩) :=
      app_nil (h := ⟨[⟨[.bool n, D z (a :: l), .int .i64 e], false⟩, ⟨[.bool false, .nil, .int .i64 0], false⟩], []⟩) (z := z) (l := a :: l) (by simp) hl
    simp only [A3] at *
    have hsub : sub (cells (a :: l)) 0 (l.length + 1) = some (cells (a :: l)) := sub_all (a :: l)
    repeat' (first | (simp (maxSteps := 9^7) only [seval, exC, c_dyad_own, ha, hsub, sl_cells]) | (simp (maxSteps := 9^7) (disch := first | with_reducible assumption | omega) only [dxB]) | (simp only [kdB]; split) | (simp only [kvB]; split))
    exact ⟨_, rfl, false, rfl⟩
theorem dyad_signed (J : Al G T g) {n z s : Bool} {l : List Nat} {e : Int} (hl : l.length < 549755813888) : ∃ z', run G T 198 [A3 n (D z l) e, .bool s] = some (A3 (s && decide (0 < l.length)) (D z' l) e) := by
  obtain ⟨z', h1⟩ := dyad_own J (n := n) (z := z) (l := l) (e := e) hl
  refine ⟨z', ?_⟩
  rw [run_k G T J.U.dyad_signed]
  have e1 : decide ((0 : Int) < (l.length : Int)) = decide (0 < l.length) := by congr 1; apply propext; omega
  simp only [A3] at *
  cases s <;> (repeat' (first | (simp (maxSteps := 9^7) only [seval, exC, c_dyad_signed, h1, e1]) | (simp (maxSteps := 9^7) (disch := first | with_reducible assumption | omega) only [dxB]) | (simp only [kdB]; split) | (simp only [kvB]; split)); all_goals try rfl)
theorem dyad_Neg (J : Al G T g) {z : Bool} {d : Dy} (hd : mayD d.n (dl d.m) d.e = true) : ∃ z', run G T 184 [DyA z d] = some (.tup [DyA z' (negD d), .int .i64 0]) := by
  obtain ⟨f1, f2, f3, f4, f5⟩ := mayD_facts hd
  have hl := (mayL_iff.1 f1).1
  have h1 := dyad_May J d.n z (Dg_dl d.m) d.e
  rw [hd] at h1
  obtain ⟨z', h2⟩ := dyad_signed J (n := d.n) (z := z) (s := !d.n) (l := dl d.m) (e := d.e) (by omega)
  refine ⟨z', ?_⟩
  have hv : A3 (!d.n && decide (0 < (dl d.m).length)) (D z' (dl d.m)) d.e = DyA z' (negD d) := by
    by_cases h0 : d.m = 0
    · have hz := f2 (dl_len0.2 h0)
      unfold negD
      rw [if_pos h0, DyA, hz.1, h0, dl_zero]; rfl
    · rw [neg_nm h0]
      have : 0 < (dl d.m).length := Nat.pos_of_ne_zero (fun hc => h0 (dl_len0.1 hc))
      rw [decide_eq_true this, Bool.and_true]; rfl
  rw [hv] at h2
  rw [run_k G T J.U.dyad_Neg]
  obtain ⟨n, m, e⟩ := d
  simp only [DyA, A3] at *
  cases n <;> (simp only [Bool.not_true, Bool.not_false] at h2; repeat' (first | (simp (maxSteps := 9^7) only [seval, exC, c_dyad_Neg, h1, h2]) | (simp (maxSteps := 9^7) (disch := first | with_reducible assumption | omega) only [dxB]) | (simp only [kdB]; split) | (simp only [kvB]; split)))
def joinD (p : Bool) (x : Nat) (q : Bool) (y : Nat) (e : Int) : Dy := if p = q then mkD p (x + y) e else if y ≤ x then mkD p (x - y) e else mkD q (y - x) e
theorem mk_rng {m : Nat} {e : Int} (hb : blen m ≤ 131072) (he : -16000000 < e ∧ e < 16000000) : m = 0 ∨ (-16777216 ≤ e + (tz m : Int) ∧ e + (tz m : Int) ≤ 16777216) := by
  by_cases h0 : m = 0
  · exact Or.inl h0
  · right; have := tz_blen h0; omega
theorem blen_add {x y : Nat} {K : Nat} (hx : blen x ≤ K) (hy : blen y ≤ K) : blen (x + y) ≤ K + 1 := by
  refine blen_le.2 ?_
  have h1 := blen_le.1 hx
  have h2 := blen_le.1 hy
  rw [Nat.pow_succ]; omega
theorem dyad_join (J : Al G T g) {p q z y : Bool} {x w : Nat} {e : Int} (hx : blen x ≤ 131071) (hw : blen w ≤ 131071) (he : -16000000 < e ∧ e < 16000000) :
    ∃ z', run G T 208 [.bool p, D z (dl x), .bool q, D y (dl w), .int .i64 e] = some (.tup [DyA z' (joinD p x q w e), .int .i64 0]) := by
  have mx : mayL (dl x) = true := mayL_small (by omega)
  have mw : mayL (dl w) = true := mayL_small (by omega)
  have hxw := blen_add hx hw
  by_cases h1 : p = q
  · have hl := dl_len_blen (x + w)
    obtain ⟨z1, a1⟩ := nat_Add J (z := z) (y := y) (a := x) (b := w) mx mw (by omega)
    obtain ⟨z2, a2⟩ := dyad_Make J (n := p) (z := z1) (a := x + w) (e := e) (mayL_small (by omega)) (mk_rng (by omega) he) (by omega)
    refine ⟨z2, ?_⟩
    unfold joinD
    rw [if_pos h1, run_k G T J.U.dyad_join]
    simp only [DyA, A3] at *
    subst h1
    cases p <;> repeat' (first | (simp (maxSteps := 9^7) only [seval, exC, c_dyad_join, a1, a2]) | (simp (maxSteps := 9^7) (disch := first | with_reducible assumption | omega) only [dxB]) | (simp only [kdB]; split) | (simp only [kvB]; split))
  · have c0 := nat_Cmp J (z := z) (y := y) (a := x) (b := w) mx mw
    by_cases h2 : w ≤ x
    · have hb := blen_mono (Nat.sub_le x w)
      have c1 : ¬ cmpN x w < 0 := by rw [cmpN_neg]; omega
      obtain ⟨z1, a1⟩ := nat_Sub J (z := z) (y := y) (a := x) (b := w) mx mw h2
      obtain ⟨z2, a2⟩ := dyad_Make J (n := p) (z := z1) (a := x - w) (e := e) (mayL_small (by omega)) (mk_rng (by omega) he) (by omega)
      refine ⟨z2, ?_⟩
      unfold joinD
      rw [if_neg h1, if_pos h2, run_k G T J.U.dyad_join]
      simp only [DyA, A3] at *
      cases p <;> cases q <;> first | (exact absurd rfl h1) | (repeat' (first | (simp (maxSteps := 9^7) only [seval, exC, c_dyad_join, c0, c1, a1, a2]) | (simp (maxSteps := 9^7) (disch := first | with_reducible assumption | omega) only [dxB]) | (simp only [kdB]; split) | (simp only [kvB]; split)))
    · have hb := blen_mono (Nat.sub_le w x)
      have c1 : cmpN x w < 0 := by rw [cmpN_neg]; omega
      obtain ⟨z1, a1⟩ := nat_Sub J (z := y) (y := z) (a := w) (b := x) mw mx (by omega)
      obtain ⟨z2, a2⟩ := dyad_Make J (n := q) (z := z1) (a := w - x) (e := e) (mayL_small (by omega)) (mk_rng (by omega) he) (by omega)
      refine ⟨z2, ?_⟩
      unfold joinD
      rw [if_neg h1, if_neg h2, run_k G T J.U.dyad_join]
      simp only [DyA, A3] at *
      cases p <;> cases q <;> first | (exact absurd rfl h1) | (repeat' (first | (simp (maxSteps := 9^7) only [seval, exC, c_dyad_join, c0, c1, a1, a2]) | (simp (maxSteps := 9^7) (disch := first | with_reducible assumption | omega) only [dxB]) | (simp only [kdB]; split) | (simp only [kvB]; split)))
theorem joinD_add {a b : Dy} (ha : a.m ≠ 0) (hb : b.m ≠ 0) (he : b.e ≤ a.e) : joinD a.n (a.m * 2 ^ (a.e - b.e).toNat) b.n b.m b.e = addD a b := by
  unfold joinD addD
  rw [if_neg ha, if_neg hb, Int.min_eq_right he, show (b.e - b.e).toNat = 0 by omega, Nat.pow_zero, Nat.mul_one]
theorem dyad_add_ord (J : Al G T g) {z y : Bool} {a b : Dy} (ha : Bd a 16384) (hb : Bd b 16384) (na : a.m ≠ 0) (nb : b.m ≠ 0) (he : b.e ≤ a.e) :
    ∃ z', run G T 203 [DyA z a, DyA y b] = some (.tup [DyA z' (addD a b), .int .i64 0]) := by
  obtain ⟨a1, a2, a3⟩ := ha
  obtain ⟨b1, b2, b3⟩ := hb
  have ma : mayL (dl a.m) = true := mayL_small (by omega)
  have l1 := nat_Len J (z := z) ma
  obtain ⟨z1, s1⟩ := nat_Shift_up J (z := z) (a := a.m) (n := (a.e - b.e).toNat) ma (Or.inr (by omega)) (by omega)
  rw [show (((a.e - b.e).toNat : Nat) : Int) = a.e - b.e by omega] at s1
  have hbl := blen_mul na (a.e - b.e).toNat
  obtain ⟨z2, j1⟩ := dyad_join J (p := a.n) (q := b.n) (z := z1) (y := y) (x := a.m * 2 ^ (a.e - b.e).toNat) (w := b.m) (e := b.e) (by omega) (by omega) (by omega)
  rw [joinD_add na nb he] at j1
  have c1 : ¬ ((dl a.m).length : Int) = 0 := fun hc => na (dl_len0.1 (by omega))
  have c2 : ¬ ((dl b.m).length : Int) = 0 := fun hc => nb (dl_len0.1 (by omega))
  have c3 : ¬ a.e < b.e := by omega
  have w1 : IntKind.i64.wrap (a.e - b.e) = a.e - b.e := wrap_i64 (by omega)
  have w2 : IntKind.i64.wrap (a.e - b.e + (blen a.m : Int)) = a.e - b.e + (blen a.m : Int) := wrap_i64 (by omega)
  have c4 : ¬ (131073 : Int) < a.e - b.e + (blen a.m : Int) := by omega
  have c5 : ¬ (131072 : Int) < a.e - b.e + (blen a.m : Int) := by omega
  refine ⟨z2, ?_⟩
  rw [run_k G T J.U.dyad_add]
  generalize addD a b = d at *
  obtain ⟨n, m, e⟩ := a
  obtain ⟨n', m', e'⟩ := b
  clear hbl a1 a2 a3 b1 b2 b3
  simp only [DyA, A3] at *
  repeat' (first | (simp (maxSteps := 9^7) only [seval, exC, c_dyad_add, c1, c2, c3, c4, c5, w1, w2, l1, s1, j1]) | (simp (maxSteps := 9^7) (disch := first | with_reducible assumption | omega) only [dxB]) | (simp only [kdB]; split) | (simp only [kvB]; split))
theorem dyad_add (J : Al G T g) {z y : Bool} {a b : Dy} (ha : Bd a 16384) (hb : Bd b 16384) (za : Nz a) (zb : Nz b) :
    ∃ z', run G T 203 [DyA z a, DyA y b] = some (.tup [DyA z' (addD a b), .int .i64 0]) := by
  by_cases na : a.m = 0
  · have hl := dl_len_blen b.m
    have hbl := hb.bl
    obtain ⟨z1, h1⟩ := dyad_own J (n := b.n) (z := y) (l := dl b.m) (e := b.e) (by omega)
    have c1 : ((dl a.m).length : Int) = 0 := by have := dl_len0.2 na; omega
    refine ⟨z1, ?_⟩
    rw [run_k G T J.U.dyad_add]
    unfold addD
    rw [if_pos na]
    obtain ⟨n, m, e⟩ := a
    obtain ⟨n', m', e'⟩ := b
    simp only [DyA, A3] at *
    repeat' (first | (simp (maxSteps := 9^7) only [seval, exC, c_dyad_add, c1, h1]) | (simp (maxSteps := 9^7) (disch := first | with_reducible assumption | omega) only [dxB]) | (simp only [kdB]; split) | (simp only [kvB]; split))
  · by_cases nb : b.m = 0
    · have hl := dl_len_blen a.m
      have hbl := ha.bl
      obtain ⟨z1, h1⟩ := dyad_own J (n := a.n) (z := z) (l := dl a.m) (e := a.e) (by omega)
      have c1 : ¬ ((dl a.m).length : Int) = 0 := fun hc => na (dl_len0.1 (by omega))
      have c2 : ((dl b.m).length : Int) = 0 := by have := dl_len0.2 nb; omega
      refine ⟨z1, ?_⟩
      rw [run_k G T J.U.dyad_add]
      unfold addD
      rw [if_neg na, if_pos nb]
      obtain ⟨n, m, e⟩ := a
      obtain ⟨n', m', e'⟩ := b
      simp only [DyA, A3] at *
      repeat' (first | (simp (maxSteps := 9^7) only [seval, exC, c_dyad_add, c1, c2, h1]) | (simp (maxSteps := 9^7) (disch := first | with_reducible assumption | omega) only [dxB]) | (simp only [kdB]; split) | (simp only [kvB]; split))
    · by_cases he : b.e ≤ a.e
      · exact dyad_add_ord J ha hb na nb he
      · obtain ⟨a1, a2, a3⟩ := ha
        obtain ⟨b1, b2, b3⟩ := hb
        have mb : mayL (dl b.m) = true := mayL_small (by omega)
        have l1 := nat_Len J (z := y) mb
        obtain ⟨z1, s1⟩ := nat_Shift_up J (z := y) (a := b.m) (n := (b.e - a.e).toNat) mb (Or.inr (by omega)) (by omega)
        rw [show (((b.e - a.e).toNat : Nat) : Int) = b.e - a.e by omega] at s1
        have hbl := blen_mul nb (b.e - a.e).toNat
        obtain ⟨z2, j1⟩ := dyad_join J (p := b.n) (q := a.n) (z := z1) (y := z) (x := b.m * 2 ^ (b.e - a.e).toNat) (w := a.m) (e := a.e) (by omega) (by omega) (by omega)
        rw [joinD_add nb na (by omega), addD_comm zb za] at j1
        have c1 : ¬ ((dl a.m).length : Int) = 0 := fun hc => na (dl_len0.1 (by omega))
        have c2 : ¬ ((dl b.m).length : Int) = 0 := fun hc => nb (dl_len0.1 (by omega))
        have c3 : a.e < b.e := by omega
        have w1 : IntKind.i64.wrap (b.e - a.e) = b.e - a.e := wrap_i64 (by omega)
        have w2 : IntKind.i64.wrap (b.e - a.e + (blen b.m : Int)) = b.e - a.e + (blen b.m : Int) := wrap_i64 (by omega)
        have c4 : ¬ (131073 : Int) < b.e - a.e + (blen b.m : Int) := by omega
        have c5 : ¬ (131072 : Int) < b.e - a.e + (blen b.m : Int) := by omega
        refine ⟨z2, ?_⟩
        rw [run_k G T J.U.dyad_add]
        generalize addD a b = d at *
        obtain ⟨n, m, e⟩ := a
        obtain ⟨n', m', e'⟩ := b
        clear hbl a1 a2 a3 b1 b2 b3
        simp only [DyA, A3] at *
        repeat' (first | (simp (maxSteps := 9^7) only [seval, exC, c_dyad_add, c1, c2, c3, c4, c5, w1, w2, l1, s1, j1]) | (simp (maxSteps := 9^7) (disch := first | with_reducible assumption | omega) only [dxB]) | (simp only [kdB]; split) | (simp only [kvB]; split))
theorem dyad_Add (J : Al G T g) {z y : Bool} {a b : Dy} (ha : Bd a 16384) (hb : Bd b 16384) (da : mayD a.n (dl a.m) a.e = true) (db : mayD b.n (dl b.m) b.e = true) :
    ∃ z', run G T 195 [DyA z a, DyA y b] = some (.tup [DyA z' (addD a b), .int .i64 0]) := by
  have h1 := dyad_both J (n := a.n) (z := z) (n' := b.n) (z' := y) (Dg_dl a.m) (Dg_dl b.m) (e := a.e) (e' := b.e)
  rw [da, db, Bool.and_self] at h1
  obtain ⟨z', h2⟩ := dyad_add J (z := z) (y := y) ha hb (mayD_nz da) (mayD_nz db)
  refine ⟨z', ?_⟩
  rw [run_k G T J.U.dyad_Add]
  generalize addD a b = d at *
  obtain ⟨n, m, e⟩ := a
  obtain ⟨n', m', e'⟩ := b
  simp only [DyA, A3] at *
  repeat' (first | (simp (maxSteps := 9^7) only [seval, exC, c_dyad_Add, h1, h2]) | (simp (maxSteps := 9^7) (disch := first | with_reducible assumption | omega) only [dxB]) | (simp only [kdB]; split) | (simp only [kvB]; split))
theorem dyad_Mul (J : Al G T g) {z y : Bool} {a b : Dy} (ha : Bd a 16384) (hb : Bd b 16384) (da : mayD a.n (dl a.m) a.e = true) (db : mayD b.n (dl b.m) b.e = true) :
    ∃ z', run G T 182 [DyA z a, DyA y b] = some (.tup [DyA z' (mulD a b), .int .i64 0]) := by
  have h1 := dyad_both J (n := a.n) (z := z) (n' := b.n) (z' := y) (Dg_dl a.m) (Dg_dl b.m) (e := a.e) (e' := b.e)
  rw [da, db, Bool.and_self] at h1
  obtain ⟨a1, a2, a3⟩ := ha
  obtain ⟨b1, b2, b3⟩ := hb
  have hl1 := dl_len_blen a.m
  have hl2 := dl_len_blen b.m
  obtain ⟨z1, h2⟩ := nat_Mul J (z := z) (y := y) (a := a.m) (b := b.m) (mayL_small (by omega)) (mayL_small (by omega)) (by omega)
  have hb : blen (a.m * b.m) ≤ 32768 := by have := blen_mulC a1 b1; omega
  obtain ⟨z2, h3⟩ := dyad_Make J (n := a.n != b.n) (z := z1) (a := a.m * b.m) (e := a.e + b.e) (mayL_small (by omega)) (mk_rng (by omega) (by omega)) (by omega)
  have w1 : IntKind.i64.wrap (a.e + b.e) = a.e + b.e := wrap_i64 (by omega)
  refine ⟨z2, ?_⟩
  rw [run_k G T J.U.dyad_Mul]
  unfold mulD
  clear hb
  obtain ⟨n, m, e⟩ := a
  obtain ⟨n', m', e'⟩ := b
  have hne : (n != n') = !decide (n = n') := by cases n <;> cases n' <;> rfl
  simp only at *
  rw [hne] at h3 ⊢
  simp only [DyA, A3] at *
  repeat' (first | (simp (maxSteps := 9^7) only [seval, exC, c_dyad_Mul, h1, h2, w1, h3]) | (simp (maxSteps := 9^7) (disch := first | with_reducible assumption | omega) only [dxB]) | (simp only [kdB]; split) | (simp only [kvB]; split))
theorem andn_nat {w k : Nat} (hk : k < 64) (hw : w < 2 ^ (k + 1)) : w &&& (2 ^ 64 - (2 ^ k + 1)) = w % 2 ^ k := by
  apply Nat.eq_of_testBit_eq
  intro i
  have hp : (2 : Nat) ^ k < 2 ^ 64 := Nat.pow_lt_pow_right (by decide) hk
  rw [Nat.testBit_and, Nat.testBit_mod_two_pow, Nat.testBit_two_pow_sub_succ hp, Nat.testBit_two_pow]
  by_cases h1 : i < k
  · rw [decide_eq_true h1, decide_eq_true (show i < 64 by omega), decide_eq_false (show ¬ k = i by omega)]; simp
  · rw [decide_eq_false h1]
    by_cases h2 : i = k
    · rw [decide_eq_true h2.symm]; simp
    · have : w.testBit i = false := Nat.testBit_lt_two_pow (Nat.lt_of_lt_of_le hw (Nat.pow_le_pow_right (by decide) (by omega)))
      rw [this]; simp
theorem andn64 {w k : Nat} (hk : k < 64) (hw : w < 2 ^ (k + 1)) : andNotI .u64 (w : Int) ((2 ^ k : Nat) : Int) = ((w % 2 ^ k : Nat) : Int) := by
  have hp : (2 : Nat) ^ k < 2 ^ 64 := Nat.pow_lt_pow_right (by decide) hk
  have hw2 : w < 2 ^ 64 := Nat.lt_of_lt_of_le hw (Nat.pow_le_pow_right (by decide) (by omega))
  have hlt : w % 2 ^ k < 2 ^ k := Nat.mod_lt _ (Nat.two_pow_pos k)
  rw [andNotI_eq]
  show IntKind.u64.wrap ((BitVec.ofInt 64 (w : Int) &&& ~~~BitVec.ofInt 64 ((2 ^ k : Nat) : Int)).toNat : Int) = _
  rw [show BitVec.ofInt 64 (w : Int) = BitVec.ofNat 64 w from rfl, show BitVec.ofInt 64 ((2 ^ k : Nat) : Int) = BitVec.ofNat 64 (2 ^ k) from rfl, BitVec.toNat_and, BitVec.toNat_not, BitVec.toNat_ofNat, BitVec.toNat_ofNat, Nat.mod_eq_of_lt hw2, Nat.mod_eq_of_lt hp,
    show 2 ^ 64 - 1 - 2 ^ k = 2 ^ 64 - (2 ^ k + 1) by omega, andn_nat hk hw, wrap_u64]
  omega
theorem andn_s {w : Nat} (h : w < 4294967296) : andNotI .u64 (w : Int) 2147483648 = ((w % 2147483648 : Nat) : Int) := andn64 (k := 31) (by decide) h
theorem andn_d {w : Nat} (h : w < 18446744073709551616) : andNotI .u64 (w : Int) 9223372036854775808 = ((w % 9223372036854775808 : Nat) : Int) := andn64 (k := 63) (by decide) h
theorem and_pow_lo {w k : Nat} (hw : w < 2 ^ k) : w &&& 2 ^ k = 0 := by
  apply Nat.eq_of_testBit_eq
  intro i
  rw [Nat.testBit_and, Nat.testBit_two_pow, Nat.zero_testBit]
  by_cases h : k = i
  · subst h; rw [Nat.testBit_lt_two_pow hw]; rfl
  · rw [decide_eq_false h, Bool.and_false]
theorem and_pow_hi {w k : Nat} (h1 : 2 ^ k ≤ w) (hw : w < 2 ^ (k + 1)) : w &&& 2 ^ k = 2 ^ k := by
  apply Nat.eq_of_testBit_eq
  intro i
  rw [Nat.testBit_and, Nat.testBit_two_pow]
  rw [Nat.pow_succ] at hw
  by_cases h : k = i
  · subst h
    have : w / 2 ^ k = 1 := Nat.div_eq_of_lt_le (by omega) (by omega)
    rw [Nat.testBit_eq_decide_div_mod_eq, this]; rfl
  · rw [decide_eq_false h, Bool.and_false]
theorem and_bit {w k : Nat} (hk : k < 64) (hw : w < 2 ^ (k + 1)) : andI .u64 (w : Int) ((2 ^ k : Nat) : Int) = if 2 ^ k ≤ w then ((2 ^ k : Nat) : Int) else 0 := by
  have hp : (2 : Nat) ^ k < 2 ^ 64 := Nat.pow_lt_pow_right (by decide) hk
  have hw2 : w < 2 ^ 64 := Nat.lt_of_lt_of_le hw (Nat.pow_le_pow_right (by decide) (by omega))
  rw [and64 (by omega) (by omega)]
  by_cases h : 2 ^ k ≤ w
  · rw [if_pos h, and_pow_hi h hw]
  · rw [if_neg h, and_pow_lo (by omega)]; rfl
theorem and_s {w : Nat} (h : w < 4294967296) : andI .u64 (w : Int) 2147483648 = if 2147483648 ≤ w then 2147483648 else 0 := and_bit (k := 31) (by decide) h
theorem and_d {w : Nat} (h : w < 18446744073709551616) : andI .u64 (w : Int) 9223372036854775808 = if 9223372036854775808 ≤ w then 9223372036854775808 else 0 := and_bit (k := 63) (by decide) h
theorem and_ms {w : Nat} (h : w < 18446744073709551616) : andI .u64 (w : Int) 8388607 = ((w % 8388608 : Nat) : Int) := and_mask (j := 23) h (by decide)
theorem and_md {w : Nat} (h : w < 18446744073709551616) : andI .u64 (w : Int) 4503599627370495 = ((w % 4503599627370496 : Nat) : Int) := and_mask (j := 52) h (by decide)
theorem or_s : orI .u64 2147483648 2147483647 = 4294967295 := by rw [orI_eq]; rfl
theorem or_d : orI .u64 9223372036854775808 9223372036854775807 = 18446744073709551615 := by rw [orI_eq]; rfl
theorem or_ns : orI .u64 2139095040 4194304 = 2143289344 := by rw [orI_eq]; rfl
theorem or_nd : orI .u64 9218868437227405312 2251799813685248 = 9221120237041090560 := by rw [orI_eq]; rfl
theorem wop_loop (e : Env) (h : Heap) : evL G T c_word_open_l1 e h = kS G T (evL G T c_word_open_b1 (keepE [4, 6, 18, 19, 20] e) h) c_word_open_l1 := s_loopc G T rfl e h
theorem ia11 (x : AV) (k : IntKind) : iaddrV 1 (.imm 1 [x]) (.int k 0) = some (.iptr [x] 0) := rfl
theorem rd11 (h : Mem) (x : AV) : rdAt G h 1 (.iptr [x] 0) = some [x] := rfl
theorem word_open1 (J : Al G T g) (F : Fm) {w : Nat} (hw : w < 18446744073709551616) : run G T 95 [.int .u8 F.u, .imm 1 [.int .u64 (w : Int)]] = some (.tup [shA F, .int .i64 (if w < 2 * F.sg then 0 else 6)]) := by
  rw [run_k G T J.D.word_open]
  have h1 := word_shapeOf (G := G) J F
  have wr : IntKind.i64.wrap 1 = 1 := rfl
  by_cases hk : w < 2 * F.sg
  · rw [if_pos hk]
    cases F
    · simp only [shA, Fm.u, Fm.fr, Fm.sg, Fm.most, Int.cast_ofNat_Int, Nat.reduceMul] at *
      have c1 : ¬ (4294967295 : Int) < (w : Int) := by omega
      repeat' (first | (simp (maxSteps := 9^7) only [seval, exC, c_word_open, h1, wop_loop, c_word_open_b1, ia11, rd11, or_s, or_d, c1, wr]) | (simp (maxSteps := 9^7) (disch := first | with_reducible assumption | omega) only [dxB]) | (simp only [kdB]; split) | (simp only [kvB]; split))
    · simp only [shA, Fm.u, Fm.fr, Fm.sg, Fm.most, Int.cast_ofNat_Int, Nat.reduceMul] at *
      have c1 : ¬ (18446744073709551615 : Int) < (w : Int) := by omega
      repeat' (first | (simp (maxSteps := 9^7) only [seval, exC, c_word_open, h1, wop_loop, c_word_open_b1, ia11, rd11, or_s, or_d, c1, wr]) | (simp (maxSteps := 9^7) (disch := first | with_reducible assumption | omega) only [dxB]) | (simp only [kdB]; split) | (simp only [kvB]; split))
  · rw [if_neg hk]
    cases F
    · simp only [shA, Fm.u, Fm.fr, Fm.sg, Fm.most, Int.cast_ofNat_Int, Nat.reduceMul] at *
      have c1 : (4294967295 : Int) < (w : Int) := by omega
      repeat' (first | (simp (maxSteps := 9^7) only [seval, exC, c_word_open, h1, wop_loop, c_word_open_b1, ia11, rd11, or_s, or_d, c1, wr]) | (simp (maxSteps := 9^7) (disch := first | with_reducible assumption | omega) only [dxB]) | (simp only [kdB]; split) | (simp only [kvB]; split))
    · simp only [Fm.sg] at hk; omega
theorem cls_spec (F : Fm) (w : Nat) : (F.ex w = 0 ∧ F.fc w = 0 ∧ F.cls w = 1) ∨ (F.ex w = 0 ∧ F.fc w ≠ 0 ∧ F.cls w = 2) ∨ (F.ex w ≠ 0 ∧ F.ex w < F.most ∧ F.cls w = 3) ∨ (F.ex w ≠ 0 ∧ ¬ F.ex w < F.most ∧ F.fc w = 0 ∧ F.cls w = 4) ∨ (F.ex w ≠ 0 ∧ ¬ F.ex w < F.most ∧ F.fc w ≠ 0 ∧ F.cls w = 5) := by
  unfold Fm.cls
  generalize F.ex w = x
  generalize F.fc w = y
  repeat' split
  all_goals omega
theorem ng_spec (F : Fm) (w : Nat) : (F.ng w = true ∧ F.sg ≤ w) ∨ (F.ng w = false ∧ w < F.sg) := by
  unfold Fm.ng
  by_cases h : F.sg ≤ w
  · left; exact ⟨decide_eq_true h, h⟩
  · right; exact ⟨decide_eq_false h, by omega⟩
theorem word_class (J : Al G T g) (F : Fm) {w : Nat} (hw : w < 2 * F.sg) : run G T 201 [shA F, .int .u64 (w : Int)] = some (.int .u8 (F.cls w)) := by
  rw [run_k G T J.U.word_shape_class]
  obtain ⟨q1, q2, q3, q4⟩ := w_split hw
  have hc := cls_spec F w
  have hlt : w % F.sg < F.sg := Nat.mod_lt _ (by cases F <;> decide)
  clear q1
  generalize F.cls w = c at *
  generalize F.ex w = x at *
  generalize F.fc w = y at *
  cases F
  · have h2 := andn_s (w := w) hw
    have hi := word_inf J .s
    simp only [shA, Fm.u, Fm.fr, Fm.sg, Fm.most, Int.cast_ofNat_Int, Nat.reducePow, Nat.reduceMul] at *
    generalize w % 2147483648 = s at *
    repeat' (first | (simp (maxSteps := 9^7) only [seval, exC, c_word_shape_class, h2, hi]) | (simp (maxSteps := 9^7) (disch := first | with_reducible assumption | omega) only [dxB]) | (simp only [kdB]; split) | (simp only [kvB]; split))
    all_goals (refine some_int ?_; omega)
  · have h2 := andn_d (w := w) hw
    have hi := word_inf J .d
    simp only [shA, Fm.u, Fm.fr, Fm.sg, Fm.most, Int.cast_ofNat_Int, Nat.reducePow, Nat.reduceMul] at *
    generalize w % 9223372036854775808 = s at *
    repeat' (first | (simp (maxSteps := 9^7) only [seval, exC, c_word_shape_class, h2, hi]) | (simp (maxSteps := 9^7) (disch := first | with_reducible assumption | omega) only [dxB]) | (simp only [kdB]; split) | (simp only [kvB]; split))
    all_goals (refine some_int ?_; omega)
theorem word_split (J : Al G T g) (F : Fm) {w : Nat} (hw : w < 2 * F.sg) : run G T 200 [shA F, .int .u64 (w : Int)] = some (fldA (F.ng w) (F.ex w) (F.fc w)) := by
  rw [run_k G T J.U.word_shape_split]
  have hlt : w % F.sg < F.sg := Nat.mod_lt _ (by cases F <;> decide)
  have hn := ng_spec F w
  have e2 : w % F.sg / 2 ^ F.fr = F.ex w := rfl
  have e3 : w % F.sg % 2 ^ F.fr = F.fc w := rfl
  have q4 := (w_split hw).2.2.2
  generalize F.ng w = n at *
  generalize F.ex w = x at *
  generalize F.fc w = y at *
  cases F
  · have h2 := andn_s (w := w) hw
    have h4 := and_s (w := w) hw
    simp only [shA, Fm.u, Fm.fr, Fm.sg, Fm.most, fldA, Int.cast_ofNat_Int, Nat.reducePow] at *
    generalize w % 2147483648 = s at *
    have h5 := and_ms (w := s) (by omega)
    rw [e3] at h5
    have w1 : (s : Int) / 8388608 = (x : Int) := by omega
    rcases hn with ⟨rfl, hn⟩ | ⟨rfl, hn⟩
    · rw [if_pos hn] at h4
      repeat' (first | (simp (maxSteps := 9^7) only [seval, exC, c_word_shape_split, h2, h4, h5, w1]) | (simp (maxSteps := 9^7) (disch := first | with_reducible assumption | omega) only [dxB]) | (simp only [kdB]; split) | (simp only [kvB]; split))
    · rw [if_neg (by omega)] at h4
      repeat' (first | (simp (maxSteps := 9^7) only [seval, exC, c_word_shape_split, h2, h4, h5, w1]) | (simp (maxSteps := 9^7) (disch := first | with_reducible assumption | omega) only [dxB]) | (simp only [kdB]; split) | (simp only [kvB]; split))
  · have h2 := andn_d (w := w) hw
    have h4 := and_d (w := w) hw
    simp only [shA, Fm.u, Fm.fr, Fm.sg, Fm.most, fldA, Int.cast_ofNat_Int, Nat.reducePow] at *
    generalize w % 9223372036854775808 = s at *
    have h5 := and_md (w := s) (by omega)
    rw [e3] at h5
    have w1 : (s : Int) / 4503599627370496 = (x : Int) := by omega
    rcases hn with ⟨rfl, hn⟩ | ⟨rfl, hn⟩
    · rw [if_pos hn] at h4
      repeat' (first | (simp (maxSteps := 9^7) only [seval, exC, c_word_shape_split, h2, h4, h5, w1]) | (simp (maxSteps := 9^7) (disch := first | with_reducible assumption | omega) only [dxB]) | (simp only [kdB]; split) | (simp only [kvB]; split))
    · rw [if_neg (by omega)] at h4
      repeat' (first | (simp (maxSteps := 9^7) only [seval, exC, c_word_shape_split, h2, h4, h5, w1]) | (simp (maxSteps := 9^7) (disch := first | with_reducible assumption | omega) only [dxB]) | (simp only [kdB]; split) | (simp only [kvB]; split))
theorem sg_64 {F : Fm} {w : Nat} (h : w < 2 * F.sg) : w < 18446744073709551616 := by
  have : 2 * F.sg ≤ 18446744073709551616 := by cases F <;> decide
  omega
theorem word_Class (J : Al G T g) (F : Fm) {w : Nat} (hw : w < 2 * F.sg) : run G T 193 [.int .u8 F.u, .int .u64 (w : Int)] = some (.tup [.int .u8 (F.cls w), .int .i64 0]) := by
  rw [run_k G T J.U.word_Class]
  have h1 := word_open1 J F (sg_64 hw)
  rw [if_pos hw] at h1
  have h2 := word_class J F hw
  generalize F.cls w = c at *
  simp only [shA] at *
  repeat' (first | (simp (maxSteps := 9^7) only [seval, exC, c_word_Class, h1, h2]) | (simp (maxSteps := 9^7) (disch := first | with_reducible assumption | omega) only [dxB]) | (simp only [kdB]; split) | (simp only [kvB]; split))
theorem word_Split (J : Al G T g) (F : Fm) {w : Nat} (hw : w < 2 * F.sg) : run G T 192 [.int .u8 F.u, .int .u64 (w : Int)] = some (.tup [fldA (F.ng w) (F.ex w) (F.fc w), .int .i64 0]) := by
  rw [run_k G T J.U.word_Split]
  have h1 := word_open1 J F (sg_64 hw)
  rw [if_pos hw] at h1
  have h2 := word_split J F hw
  generalize F.ng w = n at *
  generalize F.ex w = x at *
  generalize F.fc w = y at *
  simp only [shA, fldA] at *
  repeat' (first | (simp (maxSteps := 9^7) only [seval, exC, c_word_Split, h1, h2]) | (simp (maxSteps := 9^7) (disch := first | with_reducible assumption | omega) only [dxB]) | (simp only [kdB]; split) | (simp only [kvB]; split))
theorem word_finite (J : Al G T g) (F : Fm) {w : Nat} (hw : w < 2 * F.sg) : run G T 202 [.int .u8 F.u, .int .u64 (w : Int)] = some (.tup [shA F, .int .i64 (if F.fin w then 0 else 7)]) := by
  rw [run_k G T J.U.word_finite]
  have h1 := word_open1 J F (sg_64 hw)
  rw [if_pos hw] at h1
  have h2 := word_class J F hw
  have h3 := fin_iff (F := F) (w := w)
  have h4 := cls_range F w
  by_cases hf : F.fin w
  · rw [if_pos hf]
    have h5 := h3.1 hf
    clear h3
    generalize F.cls w = c at *
    have c1 : ¬ (4 : Int) ≤ c := by omega
    simp only [shA] at *
    repeat' (first | (simp (maxSteps := 9^7) only [seval, exC, c_word_finite, h1, h2, c1]) | (simp (maxSteps := 9^7) (disch := first | with_reducible assumption | omega) only [dxB]) | (simp only [kdB]; split) | (simp only [kvB]; split))
  · rw [if_neg hf]
    have h5 : ¬ (F.cls w = 1 ∨ F.cls w = 2 ∨ F.cls w = 3) := fun h => hf (h3.2 h)
    clear h3
    generalize F.cls w = c at *
    have c1 : (4 : Int) ≤ c := by omega
    simp only [shA] at *
    repeat' (first | (simp (maxSteps := 9^7) only [seval, exC, c_word_finite, h1, h2, c1]) | (simp (maxSteps := 9^7) (disch := first | with_reducible assumption | omega) only [dxB]) | (simp only [kdB]; split) | (simp only [kvB]; split))
theorem or_fr {y k : Nat} (h : y < 2 ^ k) (hk : k < 63) : orI .u64 (y : Int) ((2 ^ k : Nat) : Int) = ((2 ^ k + y : Nat) : Int) := by
  have hp : (2 : Nat) ^ k < 2 ^ 64 := Nat.pow_lt_pow_right (by decide) (by omega)
  have e := or_add (c := y) (x := 1) (s := k) h
  rw [Nat.one_mul] at e
  rw [or64 (by omega) (by omega), e, Nat.add_comm]
theorem word_Value (J : Al G T g) (F : Fm) {w : Nat} (hw : w < 2 * F.sg) :
    ∃ z k, run G T 194 [.int .u8 F.u, .int .u64 (w : Int)] = some (.tup [DyA z (F.vl w), .int .i64 k]) := by
  have h1 := word_finite J F hw
  by_cases hf : F.fin w
  · rw [if_pos hf] at h1
    have h2 := word_split J F hw
    have h3 := word_low J F
    have hy : F.fc w < 2 ^ F.fr := Nat.mod_lt _ (Nat.two_pow_pos _)
    have hp : 2 ^ F.fr ≤ 4503599627370496 := by cases F <;> decide
    have hF := fm_facts F
    have hm : F.most ≤ 2047 := by cases F <;> decide
    have hvl : F.vl w = F.val w := if_pos hf
    rw [hvl]
    unfold Fm.fin at hf
    unfold Fm.val
    have hor := or_fr hy (by omega)
    generalize F.ex w = x at *
    generalize F.fc w = y at *
    generalize F.ng w = n at *
    have hb1 : blen y ≤ 53 := blen_le.2 (by omega)
    have hb2 : blen (2 ^ F.fr + y) ≤ 53 := blen_le.2 (by omega)
    have hmin : min F.fr 64 = F.fr := by omega
    have hp0 := Nat.two_pow_pos F.fr
    by_cases h0 : x = 0
    · subst h0
      obtain ⟨z1, o1⟩ := nat_Of J (n := y) (by omega)
      obtain ⟨z2, o2⟩ := dyad_Make J (n := n) (z := z1) (a := y) (e := F.low) (mayL_small (by omega)) (mk_rng (by omega) (by omega)) (by omega)
      have w1 : max (0 : Int) 1 = 1 := by decide
      have w2 : IntKind.i64.wrap (1 - 1) = 0 := rfl
      have w3 : IntKind.i64.wrap (0 + F.low) = F.low := by rw [Int.zero_add]; exact wrap_i64 (by omega)
      have w4 : IntKind.i64.wrap F.low = F.low := wrap_i64 (by omega)
      refine ⟨z2, 0, ?_⟩
      rw [if_pos rfl, run_k G T J.U.word_Value]
      simp only [shA, fldA, cast0, DyA, A3] at *
      repeat' (first | (simp (maxSteps := 9^7) only [seval, exC, c_word_Value, h1, h2, h3, o1, w1, w2, w3, w4, mm_max2, o2, Int.zero_add]) | (simp (maxSteps := 9^7) (disch := first | with_reducible assumption | omega) only [dxB]) | (simp only [kdB]; split) | (simp only [kvB]; split))
    · obtain ⟨z1, o1⟩ := nat_Of J (n := 2 ^ F.fr + y) (by omega)
      obtain ⟨z2, o2⟩ := dyad_Make J (n := n) (z := z1) (a := 2 ^ F.fr + y) (e := x - 1 + F.low) (mayL_small (by omega)) (mk_rng (by omega) (by omega)) (by omega)
      have c0 : (0 : Int) < (x : Int) := by omega
      have w1 : max (x : Int) 1 = x := by omega
      have w2 : IntKind.i64.wrap ((x : Int) - 1) = x - 1 := wrap_i64 (by omega)
      have w3 : IntKind.i64.wrap ((x : Int) - 1 + F.low) = x - 1 + F.low := wrap_i64 (by omega)
      have w5 : (1 * (2 : Int) ^ F.fr) % 18446744073709551616 = ((2 ^ F.fr : Nat) : Int) := by rw [pow_cast]; omega
      have w6 : ((2 : Int) ^ F.fr) % 18446744073709551616 = ((2 ^ F.fr : Nat) : Int) := by rw [pow_cast]; omega
      refine ⟨z2, 0, ?_⟩
      rw [if_neg h0, run_k G T J.U.word_Value]
      simp only [shA, fldA, DyA, A3] at *
      repeat' (first | (simp (maxSteps := 9^7) only [seval, exC, c_word_Value, h1, h2, h3, c0, hmin, w5, w6, hor, o1, w1, w2, w3, mm_max2, o2]) | (simp (maxSteps := 9^7) (disch := first | with_reducible assumption | omega) only [dxB]) | (simp only [kdB]; split) | (simp only [kvB]; split))
  · rw [if_neg hf] at h1
    refine ⟨true, 7, ?_⟩
    have hvl : F.vl w = ⟨false, 0, 0⟩ := if_neg hf
    rw [hvl, run_k G T J.U.word_Value]
    simp only [shA, DyA, A3, dl_zero] at *
    repeat' (first | (simp (maxSteps := 9^7) only [seval, exC, c_word_Value, h1]) | (simp (maxSteps := 9^7) (disch := first | with_reducible assumption | omega) only [dxB]) | (simp only [kdB]; split) | (simp only [kvB]; split))
    all_goals try rfl
theorem word_none (J : Al G T g) (F : Fm) : run G T 204 [shA F] = some (.int .u64 (F.nan : Int)) := by
  rw [run_k G T J.U.word_shape_none]
  have h := word_inf (G := G) J F
  cases F <;> (
    simp only [shA, Fm.u, Fm.fr, Fm.sg, Fm.most, Fm.nan, Int.cast_ofNat_Int, Nat.reducePow, Nat.reduceMul, Nat.reduceSub, Nat.reduceAdd] at *
    repeat' (first | (simp (maxSteps := 9^7) only [seval, exC, c_word_shape_none, h, or_ns, or_nd]) | (simp (maxSteps := 9^7) (disch := first | with_reducible assumption | omega) only [dxB]) | (simp only [kdB]; split) | (simp only [kvB]; split)))
theorem word_None (J : Al G T g) (F : Fm) : run G T 196 [.int .u8 F.u] = some (.tup [.int .u64 (F.nan : Int), .int .i64 0]) := by
  rw [run_k G T J.U.word_None]
  have h := word_named (G := G) J F (n := false) (k := 204) (word_none J F) (by cases F <;> decide)
  rw [show F.nan + F.sgn false = F.nan from rfl] at h
  repeat' (first | (simp (maxSteps := 9^7) only [seval, exC, c_word_None, h]) | (simp (maxSteps := 9^7) (disch := first | with_reducible assumption | omega) only [dxB]) | (simp only [kdB]; split) | (simp only [kvB]; split))
theorem Nz_mul (a b : Dy) : Nz (mulD a b) := Nz_mk _ _ _
theorem Bd_mul {a b : Dy} {K : Nat} (ha : Bd a K) (hb : Bd b K) : Bd (mulD a b) (4 * K) := by
  obtain ⟨a1, a2, a3⟩ := ha
  obtain ⟨b1, b2, b3⟩ := hb
  have hb : blen (a.m * b.m) ≤ 2 * K := by
    refine blen_le.2 ?_
    rw [show 2 * K = K + K by omega, Nat.pow_add]
    exact Nat.mul_lt_mul_of_lt_of_lt (blen_le.1 a1) (blen_le.1 b1)
  exact Bd_mk (by omega) (by omega) (by omega)
theorem mayD_nzb {d : Dy} (h : Nz d) (b : Bd d 131072) : mayD d.n (dl d.m) d.e = true := by
  obtain ⟨b1, b2, b3⟩ := b
  have hm : mayL (dl d.m) = true := mayL_small b1
  simp only [mayD, hm, Bool.true_and]
  by_cases h0 : d.m = 0
  · rw [h.1 h0, dl_zero]; rfl
  · have h1 : ¬ (dl d.m).length = 0 := fun hc => h0 (dl_len0.1 hc)
    rw [if_neg h1, dg0]
    have h2 := h.2 h0
    simp only [Bool.and_eq_true, decide_eq_true_eq]
    exact ⟨h2, by omega, by omega⟩
theorem ref03_None (J : Al G T g) (F : Fm) : run G T 157 [.int .u8 F.u] = some (.int .u64 (F.nan : Int)) := by
  rw [run_k G T J.F.ref03_None]
  have h1 := ref03_Most J F
  have h2 := ref03_Frac J F
  cases F
  · have h4 := ref03_Join J .s (n := false) (x := 255) (w := 4194304) (by decide) (Or.inl (by decide))
    simp only [fldA, Fm.u, Fm.fr, Fm.most, Fm.nan, Fm.inf, Fm.sgn, Fm.sg, Int.cast_ofNat_Int, Nat.reducePow, Nat.reduceMul, Nat.reduceSub, Nat.reduceAdd, Bool.false_eq_true, if_false] at *
    repeat' (first | (simp (maxSteps := 9^7) only [seval, exC, c_ref03_None, h1, h2, h4]) | (simp (maxSteps := 9^7) (disch := first | with_reducible assumption | omega) only [dxB]) | (simp only [kdB]; split) | (simp only [kvB]; split))
  · have h4 := ref03_Join J .d (n := false) (x := 2047) (w := 2251799813685248) (by decide) (Or.inl (by decide))
    simp only [fldA, Fm.u, Fm.fr, Fm.most, Fm.nan, Fm.inf, Fm.sgn, Fm.sg, Int.cast_ofNat_Int, Nat.reducePow, Nat.reduceMul, Nat.reduceSub, Nat.reduceAdd, Bool.false_eq_true, if_false] at *
    repeat' (first | (simp (maxSteps := 9^7) only [seval, exC, c_ref03_None, h1, h2, h4]) | (simp (maxSteps := 9^7) (disch := first | with_reducible assumption | omega) only [dxB]) | (simp only [kdB]; split) | (simp only [kvB]; split))
theorem vl_val {F : Fm} {w : Nat} (h : F.fin w) : F.vl w = F.val w := if_pos h
def apB (bs : List Blk) (f : List Nat) (b n : Nat) (o : Option Blk) (w : Option (List AV)) : Option (AV × Heap) :=
  match w with
  | some nw => match o with
    | some k => if k.dead = false ∧ f.contains b = false ∧ n * 5 ≤ k.cs.length ∧ (n + 1) * 48 ≤ boundApp then some (.own bs.length 0 (n + 1) 5, ⟨bs.set b ⟨k.cs, true⟩ ++ [⟨k.cs.take (n * 5) ++ nw, false⟩], f⟩) else none
    | none => none
  | none => none
theorem ap_x (bs : List Blk) (f : List Nat) (b n c : Nat) : appV ⟨bs, f⟩ 5 48 (.own b 0 n 5) (.own c 0 1 5) = apB bs f b n (bs[b]?) (subB (bs[c]?) 0 5) := by
  have h1 := rdBlk_x bs f c 0 5
  simp only [appV, sliceCells, if_true, Nat.one_mul, h1]
  cases subB (bs[c]?) 0 5 with
  | none => rfl
  | some nw =>
    simp only [Option.map_some, apB]
    cases bs[b]? with
    | none => rfl
    | some k => simp
theorem ap_0 (bs : List Blk) (b : Nat) (cs nw : List AV) : apB bs [] b 0 (some ⟨cs, false⟩) (some nw) = some (.own bs.length 0 1 5, ⟨bs.set b ⟨cs, true⟩ ++ [⟨nw, false⟩], []⟩) := by
  simp [apB, boundApp]
theorem ap_1 (bs : List Blk) (b : Nat) (x1 x2 x3 x4 x5 : AV) (nw : List AV) : apB bs [] b 1 (some ⟨[x1, x2, x3, x4, x5], false⟩) (some nw) = some (.own bs.length 0 2 5, ⟨bs.set b ⟨[x1, x2, x3, x4, x5], true⟩ ++ [⟨x1 :: x2 :: x3 :: x4 :: x5 :: nw, false⟩], []⟩) := by
  simp [apB, boundApp]
theorem ap_2 (bs : List Blk) (b : Nat) (x1 x2 x3 x4 x5 y1 y2 y3 y4 y5 : AV) (nw : List AV) : apB bs [] b 2 (some ⟨[x1, x2, x3, x4, x5, y1, y2, y3, y4, y5], false⟩) (some nw) = some (.own bs.length 0 3 5, ⟨bs.set b ⟨[x1, x2, x3, x4, x5, y1, y2, y3, y4, y5], true⟩ ++ [⟨x1 :: x2 :: x3 :: x4 :: x5 :: y1 :: y2 :: y3 :: y4 :: y5 :: nw, false⟩], []⟩) := by
  simp [apB, boundApp]
theorem st_bs5 (F : CallF) (d : Option Nat) (os : List IOper) (e : Env) (h : Heap) (n : Nat) (zero : List AV) (ps : List (Nat × Nat × IOpd)) : evOps G F (⟨d, .bslice n 5 zero ps, none⟩ :: os) e h =
    kBs G F (fillA (repA n zero) (ps.map fun (o, n, x) => (o, n, opd e x))) (.own h.b.length 0 n 5) d os e h := st_bslice G F d os e h n 5 zero ps
theorem so_loop (e : Env) (h : Heap) : evL G T c_soft_open_l1 e h = kS G T (evL G T c_soft_open_b1 (keepE [0, 10, 31, 32, 33] e) h) c_soft_open_l1 := s_loopc G T rfl e h
theorem iw10 (x : AV) (k : IntKind) : iaddrV 1 (.imm 1 [x]) (.int k 0) = some (.iptr [x] 0) := rfl
theorem iw20 (x y : AV) (k : IntKind) : iaddrV 1 (.imm 2 [x, y]) (.int k 0) = some (.iptr [x, y] 0) := rfl
theorem iw21 (x y : AV) (k : IntKind) : iaddrV 1 (.imm 2 [x, y]) (.int k 1) = some (.iptr [x, y] 1) := rfl
theorem iw30 (x y z : AV) (k : IntKind) : iaddrV 1 (.imm 3 [x, y, z]) (.int k 0) = some (.iptr [x, y, z] 0) := rfl
theorem iw31 (x y z : AV) (k : IntKind) : iaddrV 1 (.imm 3 [x, y, z]) (.int k 1) = some (.iptr [x, y, z] 1) := rfl
theorem iw32 (x y z : AV) (k : IntKind) : iaddrV 1 (.imm 3 [x, y, z]) (.int k 2) = some (.iptr [x, y, z] 2) := rfl
theorem rp_0 (h : Mem) (x : AV) (l : List AV) : rdAt G h 1 (.iptr (x :: l) 0) = some [x] := by simp [rdAt]
theorem rp_1 (h : Mem) (x y : AV) (l : List AV) : rdAt G h 1 (.iptr (x :: y :: l) 1) = some [y] := by simp [rdAt]
theorem rp_2 (h : Mem) (x y z : AV) (l : List AV) : rdAt G h 1 (.iptr (x :: y :: z :: l) 2) = some [z] := by simp [rdAt]
theorem repA_3 (z : List AV) : repA 3 z = z ++ (z ++ z) := by simp [repA]
theorem wr_1 : IntKind.i64.wrap (0 + 1) = 1 := rfl
theorem wr_2 : IntKind.i64.wrap (1 + 1) = 2 := rfl
theorem wr_3 : IntKind.i64.wrap (2 + 1) = 3 := rfl
theorem wr1 : IntKind.i64.wrap 1 = 1 := rfl
theorem wr2 : IntKind.i64.wrap 2 = 2 := rfl
theorem wr3 : IntKind.i64.wrap 3 = 3 := rfl
def ptC (F : Fm) (w : Nat) (z : Bool) : List AV := [.int .u8 (F.cls w), .bool (F.ng w), .bool (F.vl w).n, D z (dl (F.vl w).m), .int .i64 (F.vl w).e]
set_option maxHeartbeats 8000000 in
theorem soft_open1 (J : Al G T g) (F : Fm) {md : Int} (hm : 1 ≤ md ∧ md ≤ 5) {a : Nat} (ha : a < 2 * F.sg) :
    ∃ z1, run G T 176 [.int .u8 F.u, .int .u8 md, .imm 1 [.int .u64 (a : Int)]] = some (.tup [.imm 1 (ptC F a z1), .int .i64 0]) := by
  have o1 := round_Over J F hm (neg := false)
  have s1 := word_Split J F ha
  have c1 := word_Class J F ha
  obtain ⟨z1, k1, v1⟩ := word_Value J F ha
  refine ⟨z1, ?_⟩
  rw [run_k G T J.U.soft_open]
  unfold ptC
  generalize F.cls a = ca' at *
  generalize F.ng a = na' at *
  generalize F.ex a = xa' at *
  generalize F.fc a = ya' at *
  generalize F.vl a = va' at *
  simp only [fldA, DyA, A3, List.cons_append, List.nil_append] at *
  repeat' (first | (simp (maxSteps := 9^7) only [seval, exC, c_soft_open, st_bs5, o1, s1, c1, v1, so_loop, c_soft_open_b1, iw10, rp_0, ap_0, wr_1, wr1, ap_x, List.set_cons_zero, List.set_cons_succ, List.cons_append, List.nil_append ]) | (simp (maxSteps := 9^7) (disch := first | with_reducible assumption | omega) only [dxB,  kM_int]) | (simp only [kdB]; split) | (simp only [kvB]; split))
set_option maxHeartbeats 8000000 in
theorem soft_open2 (J : Al G T g) (F : Fm) {md : Int} (hm : 1 ≤ md ∧ md ≤ 5) {a : Nat} {b : Nat} (ha : a < 2 * F.sg) (hb : b < 2 * F.sg) :
    ∃ z1 z2, run G T 176 [.int .u8 F.u, .int .u8 md, .imm 2 [.int .u64 (a : Int), .int .u64 (b : Int)]] = some (.tup [.imm 2 (ptC F a z1 ++ ptC F b z2), .int .i64 0]) := by
  have o1 := round_Over J F hm (neg := false)
  have s1 := word_Split J F ha
  have c1 := word_Class J F ha
  obtain ⟨z1, k1, v1⟩ := word_Value J F ha
  have s2 := word_Split J F hb
  have c2 := word_Class J F hb
  obtain ⟨z2, k2, v2⟩ := word_Value J F hb
  refine ⟨z1, z2, ?_⟩
  rw [run_k G T J.U.soft_open]
  unfold ptC
  generalize F.cls a = ca' at *
  generalize F.ng a = na' at *
  generalize F.ex a = xa' at *
  generalize F.fc a = ya' at *
  generalize F.vl a = va' at *
  generalize F.cls b = cb' at *
  generalize F.ng b = nb' at *
  generalize F.ex b = xb' at *
  generalize F.fc b = yb' at *
  generalize F.vl b = vb' at *
  simp only [fldA, DyA, A3, List.cons_append, List.nil_append] at *
  repeat' (first | (simp (maxSteps := 9^7) only [seval, exC, c_soft_open, st_bs5, o1, s1, c1, v1, s2, c2, v2, so_loop, c_soft_open_b1, iw20, iw21, rp_0, rp_1, ap_0, ap_1, wr_1, wr1, wr_2, wr2, repA_2, ap_x, List.set_cons_zero, List.set_cons_succ, List.cons_append, List.nil_append ]) | (simp (maxSteps := 9^7) (disch := first | with_reducible assumption | omega) only [dxB,  kM_int]) | (simp only [kdB]; split) | (simp only [kvB]; split))
set_option maxHeartbeats 8000000 in
theorem soft_open3 (J : Al G T g) (F : Fm) {md : Int} (hm : 1 ≤ md ∧ md ≤ 5) {a : Nat} {b : Nat} {c : Nat} (ha : a < 2 * F.sg) (hb : b < 2 * F.sg) (hc : c < 2 * F.sg) :
    ∃ z1 z2 z3, run G T 176 [.int .u8 F.u, .int .u8 md, .imm 3 [.int .u64 (a : Int), .int .u64 (b : Int), .int .u64 (c : Int)]] = some (.tup [.imm 3 (ptC F a z1 ++ ptC F b z2 ++ ptC F c z3), .int .i64 0]) := by
  have o1 := round_Over J F hm (neg := false)
  have s1 := word_Split J F ha
  have c1 := word_Class J F ha
  obtain ⟨z1, k1, v1⟩ := word_Value J F ha
  have s2 := word_Split J F hb
  have c2 := word_Class J F hb
  obtain ⟨z2, k2, v2⟩ := word_Value J F hb
  have s3 := word_Split J F hc
  have c3 := word_Class J F hc
  obtain ⟨z3, k3, v3⟩ := word_Value J F hc
  refine ⟨z1, z2, z3, ?_⟩
  rw [run_k G T J.U.soft_open]
  unfold ptC
  generalize F.cls a = ca' at *
  generalize F.ng a = na' at *
  generalize F.ex a = xa' at *
  generalize F.fc a = ya' at *
  generalize F.vl a = va' at *
  generalize F.cls b = cb' at *
  generalize F.ng b = nb' at *
  generalize F.ex b = xb' at *
  generalize F.fc b = yb' at *
  generalize F.vl b = vb' at *
  generalize F.cls c = cc' at *
  generalize F.ng c = nc' at *
  generalize F.ex c = xc' at *
  generalize F.fc c = yc' at *
  generalize F.vl c = vc' at *
  simp only [fldA, DyA, A3, List.cons_append, List.nil_append] at *
  repeat' (first | (simp (maxSteps := 9^7) only [seval, exC, c_soft_open, st_bs5, o1, s1, c1, v1, s2, c2, v2, s3, c3, v3, so_loop, c_soft_open_b1, iw30, iw31, iw32, rp_0, rp_1, rp_2, ap_0, ap_1, ap_2, wr_1, wr1, wr_2, wr2, wr_3, wr3, repA_3, ap_x, List.set_cons_zero, List.set_cons_succ, List.cons_append, List.nil_append ]) | (simp (maxSteps := 9^7) (disch := first | with_reducible assumption | omega) only [dxB,  kM_int]) | (simp only [kdB]; split) | (simp only [kvB]; split))
end Go.Cv
namespace Go.Cv
variable {G : Nat → Option (List AV)} {T : Tbl} {g : Nat}
theorem hs_loop (e : Env) (h : Heap) : evL G T c_soft_has_l1 e h = kS G T (evL G T c_soft_has_b1 (keepE [0, 7, 8, 9] e) h) c_soft_has_l1 := s_loopc G T rfl e h
section
variable (a1 a2 a3 a4 a5 b1 b2 b3 b4 b5 c1 c2 c3 c4 c5 : AV) (k : IntKind)
theorem i5_10 : iaddrV 5 (.imm 1 [a1, a2, a3, a4, a5]) (.int k 0) = some (.iptr [a1, a2, a3, a4, a5] 0) := rfl
theorem i5_20 : iaddrV 5 (.imm 2 [a1, a2, a3, a4, a5, b1, b2, b3, b4, b5]) (.int k 0) = some (.iptr [a1, a2, a3, a4, a5, b1, b2, b3, b4, b5] 0) := rfl
theorem i5_21 : iaddrV 5 (.imm 2 [a1, a2, a3, a4, a5, b1, b2, b3, b4, b5]) (.int k 1) = some (.iptr [a1, a2, a3, a4, a5, b1, b2, b3, b4, b5] 5) := rfl
theorem i5_30 : iaddrV 5 (.imm 3 [a1, a2, a3, a4, a5, b1, b2, b3, b4, b5, c1, c2, c3, c4, c5]) (.int k 0) = some (.iptr [a1, a2, a3, a4, a5, b1, b2, b3, b4, b5, c1, c2, c3, c4, c5] 0) := rfl
theorem i5_31 : iaddrV 5 (.imm 3 [a1, a2, a3, a4, a5, b1, b2, b3, b4, b5, c1, c2, c3, c4, c5]) (.int k 1) = some (.iptr [a1, a2, a3, a4, a5, b1, b2, b3, b4, b5, c1, c2, c3, c4, c5] 5) := rfl
theorem i5_32 : iaddrV 5 (.imm 3 [a1, a2, a3, a4, a5, b1, b2, b3, b4, b5, c1, c2, c3, c4, c5]) (.int k 2) = some (.iptr [a1, a2, a3, a4, a5, b1, b2, b3, b4, b5, c1, c2, c3, c4, c5] 10) := rfl
theorem r5_0 (h : Mem) (l : List AV) : rdAt G h 5 (.iptr (a1 :: a2 :: a3 :: a4 :: a5 :: l) 0) = some [a1, a2, a3, a4, a5] := by simp [rdAt]
theorem r5_5 (h : Mem) (l : List AV) : rdAt G h 5 (.iptr (a1 :: a2 :: a3 :: a4 :: a5 :: b1 :: b2 :: b3 :: b4 :: b5 :: l) 5) = some [b1, b2, b3, b4, b5] := by simp [rdAt]
theorem r5_10 (h : Mem) (l : List AV) : rdAt G h 5 (.iptr (a1 :: a2 :: a3 :: a4 :: a5 :: b1 :: b2 :: b3 :: b4 :: b5 :: c1 :: c2 :: c3 :: c4 :: c5 :: l) 10) = some [c1, c2, c3, c4, c5] := by simp [rdAt]
end
theorem soft_has2 (J : Al G T g) {k c c' : Int} {n s n' s' z z' : Bool} {l l' : List Nat} {e e' : Int} :
    run G T 178 [.int .u8 k, .imm 2 [.int .u8 c, .bool n, .bool s, D z l, .int .i64 e, .int .u8 c', .bool n', .bool s', D z' l', .int .i64 e']] = some (.bool (decide (c = k ∨ c' = k))) := by
  rw [run_k G T J.U.soft_has]
  by_cases h1 : c = k
  · rw [decide_eq_true (Or.inl h1)]
    repeat' (first | (simp (maxSteps := 9^7) only [seval, exC, c_soft_has, hs_loop, c_soft_has_b1, i5_20, i5_21, r5_0, r5_5, wr_1, wr1, wr_2, wr2, h1]) | (simp (maxSteps := 9^7) (disch := first | with_reducible assumption | omega) only [dxB]) | (simp only [kdB]; split) | (simp only [kvB]; split))
  · by_cases h2 : c' = k
    · rw [decide_eq_true (Or.inr h2)]
      repeat' (first | (simp (maxSteps := 9^7) only [seval, exC, c_soft_has, hs_loop, c_soft_has_b1, i5_20, i5_21, r5_0, r5_5, wr_1, wr1, wr_2, wr2, h1, h2]) | (simp (maxSteps := 9^7) (disch := first | with_reducible assumption | omega) only [dxB]) | (simp only [kdB]; split) | (simp only [kvB]; split))
    · rw [decide_eq_false (by omega)]
      repeat' (first | (simp (maxSteps := 9^7) only [seval, exC, c_soft_has, hs_loop, c_soft_has_b1, i5_20, i5_21, r5_0, r5_5, wr_1, wr1, wr_2, wr2, h1, h2]) | (simp (maxSteps := 9^7) (disch := first | with_reducible assumption | omega) only [dxB]) | (simp only [kdB]; split) | (simp only [kvB]; split))
set_option maxHeartbeats 2000000 in
theorem soft_has3 (J : Al G T g) {k c c' c'' : Int} {n s n' s' n'' s'' z z' z'' : Bool} {l l' l'' : List Nat} {e e' e'' : Int} :
    run G T 178 [.int .u8 k, .imm 3 [.int .u8 c, .bool n, .bool s, D z l, .int .i64 e, .int .u8 c', .bool n', .bool s', D z' l', .int .i64 e', .int .u8 c'', .bool n'', .bool s'', D z'' l'', .int .i64 e'']] = some (.bool (decide (c = k ∨ c' = k ∨ c'' = k))) := by
  rw [run_k G T J.U.soft_has]
  by_cases h1 : c = k
  · rw [decide_eq_true (Or.inl h1)]
    repeat' (first | (simp (maxSteps := 9^7) only [seval, exC, c_soft_has, hs_loop, c_soft_has_b1, i5_30, i5_31, i5_32, r5_0, r5_5, r5_10, wr_1, wr1, wr_2, wr2, wr_3, wr3, h1]) | (simp (maxSteps := 9^7) (disch := first | with_reducible assumption | omega) only [dxB]) | (simp only [kdB]; split) | (simp only [kvB]; split))
  · by_cases h2 : c' = k
    · rw [decide_eq_true (Or.inr (Or.inl h2))]
      repeat' (first | (simp (maxSteps := 9^7) only [seval, exC, c_soft_has, hs_loop, c_soft_has_b1, i5_30, i5_31, i5_32, r5_0, r5_5, r5_10, wr_1, wr1, wr_2, wr2, wr_3, wr3, h1, h2]) | (simp (maxSteps := 9^7) (disch := first | with_reducible assumption | omega) only [dxB]) | (simp only [kdB]; split) | (simp only [kvB]; split))
    · by_cases h3 : c'' = k
      · rw [decide_eq_true (Or.inr (Or.inr h3))]
        repeat' (first | (simp (maxSteps := 9^7) only [seval, exC, c_soft_has, hs_loop, c_soft_has_b1, i5_30, i5_31, i5_32, r5_0, r5_5, r5_10, wr_1, wr1, wr_2, wr2, wr_3, wr3, h1, h2, h3]) | (simp (maxSteps := 9^7) (disch := first | with_reducible assumption | omega) only [dxB]) | (simp only [kdB]; split) | (simp only [kvB]; split))
      · rw [decide_eq_false (by omega)]
        repeat' (first | (simp (maxSteps := 9^7) only [seval, exC, c_soft_has, hs_loop, c_soft_has_b1, i5_30, i5_31, i5_32, r5_0, r5_5, r5_10, wr_1, wr1, wr_2, wr2, wr_3, wr3, h1, h2, h3]) | (simp (maxSteps := 9^7) (disch := first | with_reducible assumption | omega) only [dxB]) | (simp only [kdB]; split) | (simp only [kvB]; split))
def deskA (F : Fm) (md : Int) : AV := .agg [.int .u8 F.u, .int .u8 md]
def ptA (c : Int) (n z : Bool) (d : Dy) : AV := .agg [.int .u8 c, .bool n, .bool d.n, D z (dl d.m), .int .i64 d.e]
theorem desk_none (J : Al G T g) (F : Fm) {md x : Int} : run G T 179 [deskA F md, .int .u8 x] = some (.tup [.int .u64 (F.nan : Int), .int .u8 x, .int .i64 0]) := by
  rw [run_k G T J.U.soft_desk_none]
  have h1 := word_None J F
  simp only [deskA] at *
  repeat' (first | (simp (maxSteps := 9^7) only [seval, exC, c_soft_desk_none, h1]) | (simp (maxSteps := 9^7) (disch := first | with_reducible assumption | omega) only [dxB]) | (simp only [kdB]; split) | (simp only [kvB]; split))
theorem desk_inf (J : Al G T g) (F : Fm) {md x : Int} {n : Bool} : run G T 180 [deskA F md, .bool n, .int .u8 x] = some (.tup [.int .u64 ((F.inf n : Nat) : Int), .int .u8 x, .int .i64 0]) := by
  rw [run_k G T J.U.soft_desk_inf]
  have h1 := word_Inf J F (n := n)
  simp only [deskA] at *
  cases n <;> repeat' (first | (simp (maxSteps := 9^7) only [seval, exC, c_soft_desk_inf, h1]) | (simp (maxSteps := 9^7) (disch := first | with_reducible assumption | omega) only [dxB]) | (simp only [kdB]; split) | (simp only [kvB]; split))
theorem desk_zero (J : Al G T g) (F : Fm) {md : Int} {n : Bool} : run G T 181 [deskA F md, .bool n] = some (.tup [.int .u64 ((F.sgn n : Nat) : Int), .int .u8 0, .int .i64 0]) := by
  rw [run_k G T J.U.soft_desk_zero]
  have h1 := word_Zero J F (n := n)
  simp only [deskA] at *
  cases n <;> repeat' (first | (simp (maxSteps := 9^7) only [seval, exC, c_soft_desk_zero, h1]) | (simp (maxSteps := 9^7) (disch := first | with_reducible assumption | omega) only [dxB]) | (simp only [kdB]; split) | (simp only [kvB]; split))
theorem desk_sum (J : Al G T g) (F : Fm) {md : Int} (hm : 1 ≤ md ∧ md ≤ 5) {z : Bool} {d : Dy} (hz : Nz d) (hb : Bd d 131072) :
    run G T 183 [deskA F md, DyA z d] = some (.tup [.int .u64 ((sumW F md d).1 : Int), .int .u8 ((sumW F md d).2 : Int), .int .i64 0]) := by
  rw [run_k G T J.U.soft_desk_sum]
  have hmd := mayD_nzb hz hb
  have s1 := dyad_Sign J (n := d.n) (z := z) (Dg_dl d.m) (e := d.e)
  rw [sign_may hmd] at s1
  unfold sumW
  by_cases h0 : d.m = 0
  · rw [if_pos h0] at s1 ⊢
    have h1 := desk_zero J F (md := md) (n := decide (md = 5))
    simp only [deskA, DyA, A3] at *
    repeat' (first | (simp (maxSteps := 9^7) only [seval, exC, c_soft_desk_sum, s1, h1]) | (simp (maxSteps := 9^7) (disch := first | with_reducible assumption | omega) only [dxB]) | (simp only [kdB]; split) | (simp only [kvB]; split))
    all_goals try rfl
  · rw [if_neg h0] at s1 ⊢
    have h1 := round_Round J F hm (z := z) (d := d) hmd
    have c1 : ¬ (if d.n = true then (-1 : Int) else 1) = 0 := by split <;> decide
    generalize (if d.n = true then (-1 : Int) else 1) = sg at *
    generalize rndW F md d = S at *
    simp only [deskA, DyA, A3] at *
    repeat' (first | (simp (maxSteps := 9^7) only [seval, exC, c_soft_desk_sum, s1, c1, h1]) | (simp (maxSteps := 9^7) (disch := first | with_reducible assumption | omega) only [dxB]) | (simp only [kdB]; split) | (simp only [kvB]; split))
    all_goals try rfl
set_option maxHeartbeats 8000000 in
theorem desk_add (J : Al G T g) (F : Fm) {md : Int} (hm : 1 ≤ md ∧ md ≤ 5) {c c' : Int} {n n' z z' : Bool} {d d' : Dy}
    (hz : Nz d) (hz' : Nz d') (hb : Bd d 16384) (hb' : Bd d' 16384) :
    run G T 177 [deskA F md, ptA c n z d, ptA c' n' z' d'] = some (.tup [.int .u64 ((addP F md c n d c' n' d').1 : Int), .int .u8 ((addP F md c n d c' n' d').2 : Int), .int .i64 0]) := by
  rw [run_k G T J.U.soft_desk_add]
  have h5 := soft_has2 J (k := 5) (c := c) (c' := c') (n := n) (s := d.n) (n' := n') (s' := d'.n) (z := z) (z' := z') (l := dl d.m) (l' := dl d'.m) (e := d.e) (e' := d'.e)
  have nn := fun x => desk_none J F (md := md) (x := x)
  have inf := fun m => desk_inf J F (md := md) (x := 0) (n := m)
  have ze := fun m => desk_zero J F (md := md) (n := m)
  unfold addP
  by_cases a5 : c = 5 ∨ c' = 5
  · rw [decide_eq_true a5] at h5
    rw [if_pos a5]
    simp only [deskA, ptA] at *
    repeat' (first | (simp (maxSteps := 9^7) only [seval, exC, c_soft_desk_add, st_bs5, h5, nn]) | (simp (maxSteps := 9^7) (disch := first | with_reducible assumption | omega) only [dxB]) | (simp only [kdB]; split) | (simp only [kvB]; split))
    all_goals try rfl
  · rw [decide_eq_false a5] at h5
    rw [if_neg a5]
    by_cases a4 : c = 4
    · by_cases b4 : c' = 4
      · by_cases hn : n = n'
        · rw [if_neg (show ¬ (c = 4 ∧ c' = 4 ∧ n ≠ n') from fun h => h.2.2 hn), if_pos a4]
          have i1 := inf n'
          subst a4 b4 hn
          simp only [deskA, ptA] at *
          cases n <;> (
            repeat' (first | (simp (maxSteps := 9^7) only [seval, exC, c_soft_desk_add, st_bs5, h5, i1]) | (simp (maxSteps := 9^7) (disch := first | with_reducible assumption | omega) only [dxB]) | (simp only [kdB]; split) | (simp only [kvB]; split))
            all_goals try rfl)
        · rw [if_pos (show c = 4 ∧ c' = 4 ∧ n ≠ n' from ⟨a4, b4, hn⟩)]
          subst a4 b4
          simp only [deskA, ptA] at *
          cases n <;> cases n' <;> first | exact absurd rfl hn | (
            repeat' (first | (simp (maxSteps := 9^7) only [seval, exC, c_soft_desk_add, st_bs5, h5, nn]) | (simp (maxSteps := 9^7) (disch := first | with_reducible assumption | omega) only [dxB]) | (simp only [kdB]; split) | (simp only [kvB]; split))
            all_goals try rfl)
      · rw [if_neg (show ¬ (c = 4 ∧ c' = 4 ∧ n ≠ n') by omega), if_pos a4]
        have i1 := inf n
        subst a4
        simp only [deskA, ptA] at *
        cases n <;> (
          repeat' (first | (simp (maxSteps := 9^7) only [seval, exC, c_soft_desk_add, st_bs5, h5, b4, i1]) | (simp (maxSteps := 9^7) (disch := first | with_reducible assumption | omega) only [dxB]) | (simp only [kdB]; split) | (simp only [kvB]; split))
          all_goals try rfl)
    · rw [if_neg (show ¬ (c = 4 ∧ c' = 4 ∧ n ≠ n') by omega), if_neg a4]
      by_cases b4 : c' = 4
      · rw [if_pos b4]
        have i1 := inf n'
        subst b4
        simp only [deskA, ptA] at *
        cases n' <;> (
          repeat' (first | (simp (maxSteps := 9^7) only [seval, exC, c_soft_desk_add, st_bs5, h5, a4, i1]) | (simp (maxSteps := 9^7) (disch := first | with_reducible assumption | omega) only [dxB]) | (simp only [kdB]; split) | (simp only [kvB]; split))
          all_goals try rfl)
      · rw [if_neg b4]
        by_cases h1 : c = 1 ∧ c' = 1 ∧ n = n'
        · rw [if_pos h1]
          have i1 := ze n
          obtain ⟨k1, k2, k3⟩ := h1
          subst k1 k2 k3
          simp only [deskA, ptA] at *
          cases n <;> (
            repeat' (first | (simp (maxSteps := 9^7) only [seval, exC, c_soft_desk_add, st_bs5, h5, i1]) | (simp (maxSteps := 9^7) (disch := first | with_reducible assumption | omega) only [dxB]) | (simp only [kdB]; split) | (simp only [kvB]; split))
            all_goals try rfl)
        · rw [if_neg h1]
          obtain ⟨z3, s1⟩ := dyad_Add J (z := z) (y := z') hb hb' (mayD_nzb hz (hb.mono (by decide))) (mayD_nzb hz' (hb'.mono (by decide)))
          have s2 := desk_sum J F hm (z := z3) (Nz_add hz hz') ((Bd_add hb hb').mono (by decide))
          generalize sumW F md (addD d d') = S at *
          generalize addD d d' = s at *
          have hk : ¬ c = 1 ∨ (c = 1 ∧ ¬ c' = 1) ∨ (c = 1 ∧ c' = 1 ∧ n ≠ n') := by
            by_cases q1 : c = 1
            · by_cases q2 : c' = 1
              · right; right; exact ⟨q1, q2, fun h => h1 ⟨q1, q2, h⟩⟩
              · right; left; exact ⟨q1, q2⟩
            · left; exact q1
          clear h1 hb hb' hz hz' inf ze nn
          simp only [deskA, ptA, DyA, A3] at *
          rcases hk with k1 | ⟨k1, k2⟩ | ⟨k1, k2, k3⟩
          · repeat' (first | (simp (maxSteps := 9^7) only [seval, exC, c_soft_desk_add, st_bs5, h5, a4, b4, k1, s1, s2]) | (simp (maxSteps := 9^7) (disch := first | with_reducible assumption | omega) only [dxB]) | (simp only [kdB]; split) | (simp only [kvB]; split))
            all_goals try rfl
          · subst k1
            repeat' (first | (simp (maxSteps := 9^7) only [seval, exC, c_soft_desk_add, st_bs5, h5, a4, b4, k2, s1, s2]) | (simp (maxSteps := 9^7) (disch := first | with_reducible assumption | omega) only [dxB]) | (simp only [kdB]; split) | (simp only [kvB]; split))
            all_goals try rfl
          · subst k1 k2
            cases n <;> cases n' <;> first | exact absurd rfl k3 | (
              repeat' (first | (simp (maxSteps := 9^7) only [seval, exC, c_soft_desk_add, st_bs5, h5, s1, s2]) | (simp (maxSteps := 9^7) (disch := first | with_reducible assumption | omega) only [dxB]) | (simp only [kdB]; split) | (simp only [kvB]; split))
              all_goals try rfl)
end Go.Cv
namespace Go.Cv
variable {G : Nat → Option (List AV)} {T : Tbl} {g : Nat}
theorem apart_ip (cs : List AV) (o b o' : Nat) : apart (.iptr cs o) (.ptr b o') = true := rfl
theorem soft_Add (J : Al G T g) (F : Fm) {md : Int} (hm : 1 ≤ md ∧ md ≤ 5) {a b : Nat} (ha : a < 2 * F.sg) (hb : b < 2 * F.sg) :
    run G T 164 [.int .u8 F.u, .int .u8 md, .int .u64 (a : Int), .int .u64 (b : Int)] = some (.tup [.int .u64 ((addW F md a b).1 : Int), .int .u8 ((addW F md a b).2 : Int), .int .i64 0]) := by
  rw [run_k G T J.U.soft_Add]
  obtain ⟨z1, z2, o1⟩ := soft_open2 J F hm ha hb
  have s1 := desk_add J F hm (c := F.cls a) (n := F.ng a) (z := z1) (d := F.vl a) (c' := F.cls b) (n' := F.ng b) (z' := z2) (d' := F.vl b) (Nz_vl F a) (Nz_vl F b) ((Bd_vl F a).mono (by decide)) ((Bd_vl F b).mono (by decide))
  unfold addW
  generalize addP F md (F.cls a) (F.ng a) (F.vl a) (F.cls b) (F.ng b) (F.vl b) = S at *
  unfold ptC at o1
  generalize F.cls a = ca at *
  generalize F.ng a = na at *
  generalize F.vl a = va at *
  generalize F.cls b = cb at *
  generalize F.ng b = nb at *
  generalize F.vl b = vb at *
  simp only [deskA, ptA, List.cons_append, List.nil_append] at *
  repeat' (first | (simp (maxSteps := 9^7) only [seval, exC, c_soft_Add, o1, i5_20, i5_21, r5_0, r5_5, s1]) | (simp (maxSteps := 9^7) (disch := first | with_reducible assumption | omega) only [dxB]) | (simp only [kdB]; split) | (simp only [kvB]; split))
  all_goals try rfl
theorem soft_Sub (J : Al G T g) (F : Fm) {md : Int} (hm : 1 ≤ md ∧ md ≤ 5) {a b : Nat} (ha : a < 2 * F.sg) (hb : b < 2 * F.sg) :
    run G T 166 [.int .u8 F.u, .int .u8 md, .int .u64 (a : Int), .int .u64 (b : Int)] = some (.tup [.int .u64 ((subW F md a b).1 : Int), .int .u8 ((subW F md a b).2 : Int), .int .i64 0]) := by
  rw [run_k G T J.U.soft_Sub]
  obtain ⟨z1, z2, o1⟩ := soft_open2 J F hm ha hb
  obtain ⟨z3, n1⟩ := dyad_Neg J (z := z2) (d := F.vl b) (mayD_nzb (Nz_vl F b) ((Bd_vl F b).mono (by decide)))
  have s1 := desk_add J F hm (c := F.cls a) (n := F.ng a) (z := z1) (d := F.vl a) (c' := F.cls b) (n' := !F.ng b) (z' := z3) (d' := negD (F.vl b)) (Nz_vl F a) (Nz_neg (Nz_vl F b)) ((Bd_vl F a).mono (by decide)) (((Bd_vl F b).neg).mono (by decide))
  unfold subW
  generalize addP F md (F.cls a) (F.ng a) (F.vl a) (F.cls b) (!F.ng b) (negD (F.vl b)) = S at *
  unfold ptC at o1
  generalize negD (F.vl b) = vb' at *
  generalize F.cls a = ca at *
  generalize F.ng a = na at *
  generalize F.vl a = va at *
  generalize F.cls b = cb at *
  generalize F.ng b = nb at *
  generalize F.vl b = vb at *
  simp only [deskA, ptA, DyA, A3, List.cons_append, List.nil_append] at *
  cases nb <;> (
    simp only [Bool.not_true, Bool.not_false] at s1
    repeat' (first | (simp (maxSteps := 9^7) only [seval, exC, c_soft_Sub, o1, i5_20, i5_21, r5_0, r5_5, n1, s1]) | (simp (maxSteps := 9^7) (disch := first | with_reducible assumption | omega) only [dxB]) | (simp only [kdB]; split) | (simp only [kvB]; split))
    all_goals try rfl)
set_option maxHeartbeats 8000000 in
theorem soft_Mul (J : Al G T g) (F : Fm) {md : Int} (hm : 1 ≤ md ∧ md ≤ 5) {a b : Nat} (ha : a < 2 * F.sg) (hb : b < 2 * F.sg) :
    run G T 165 [.int .u8 F.u, .int .u8 md, .int .u64 (a : Int), .int .u64 (b : Int)] = some (.tup [.int .u64 ((mulW2 F md a b).1 : Int), .int .u8 ((mulW2 F md a b).2 : Int), .int .i64 0]) := by
  rw [run_k G T J.U.soft_Mul]
  obtain ⟨z1, z2, o1⟩ := soft_open2 J F hm ha hb
  have hk := fun k => soft_has2 J (k := k) (c := F.cls a) (c' := F.cls b) (n := F.ng a) (s := (F.vl a).n) (n' := F.ng b) (s' := (F.vl b).n) (z := z1) (z' := z2) (l := dl (F.vl a).m) (l' := dl (F.vl b).m) (e := (F.vl a).e) (e' := (F.vl b).e)
  have h5 := hk 5
  have h4 := hk 4
  have h1 := hk 1
  have nn := fun x => desk_none J F (md := md) (x := x)
  have inf := fun x => desk_inf J F (md := md) (x := x) (n := F.ng a != F.ng b)
  have ze := desk_zero J F (md := md) (n := F.ng a != F.ng b)
  have b1 := Bd_vl F a
  have b2 := Bd_vl F b
  obtain ⟨z3, m1⟩ := dyad_Mul J (z := z1) (y := z2) (b1.mono (by decide)) (b2.mono (by decide)) (mayD_nzb (Nz_vl F a) (b1.mono (by decide))) (mayD_nzb (Nz_vl F b) (b2.mono (by decide)))
  have s1 := desk_sum J F hm (z := z3) (Nz_mul (F.vl a) (F.vl b)) ((Bd_mul b1 b2).mono (by decide))
  unfold mulW2 mulP
  unfold ptC at o1
  generalize sumW F md (mulD (F.vl a) (F.vl b)) = S at *
  generalize mulD (F.vl a) (F.vl b) = s at *
  clear b1 b2 hk
  generalize F.cls a = ca at *
  generalize F.ng a = na at *
  generalize F.vl a = va at *
  generalize F.cls b = cb at *
  generalize F.ng b = nb at *
  generalize F.vl b = vb at *
  simp only [deskA, DyA, A3, List.cons_append, List.nil_append] at *
  have hne : (na != nb) = !decide (na = nb) := by cases na <;> cases nb <;> rfl
  rw [hne] at inf ze ⊢
  by_cases q5 : ca = 5 ∨ cb = 5
  · rw [decide_eq_true q5] at h5
    rw [if_pos q5]
    repeat' (first | (simp (maxSteps := 9^7) only [seval, exC, c_soft_Mul, apart_ip, o1, i5_20, i5_21, r5_0, r5_5, h5, nn]) | (simp (maxSteps := 9^7) (disch := first | with_reducible assumption | omega) only [dxB]) | (simp only [kdB]; split) | (simp only [kvB]; split))
    all_goals try rfl
  · rw [decide_eq_false q5] at h5
    rw [if_neg q5]
    by_cases q4 : ca = 4 ∨ cb = 4
    · rw [decide_eq_true q4] at h4
      by_cases q1 : ca = 1 ∨ cb = 1
      · rw [decide_eq_true q1] at h1
        rw [if_pos (show (ca = 4 ∨ cb = 4) ∧ (ca = 1 ∨ cb = 1) from ⟨q4, q1⟩)]
        repeat' (first | (simp (maxSteps := 9^7) only [seval, exC, c_soft_Mul, apart_ip, o1, i5_20, i5_21, r5_0, r5_5, h5, h4, h1, nn]) | (simp (maxSteps := 9^7) (disch := first | with_reducible assumption | omega) only [dxB]) | (simp only [kdB]; split) | (simp only [kvB]; split))
        all_goals try rfl
      · rw [decide_eq_false q1] at h1
        rw [if_neg (show ¬ ((ca = 4 ∨ cb = 4) ∧ (ca = 1 ∨ cb = 1)) from fun h => q1 h.2), if_pos q4]
        repeat' (first | (simp (maxSteps := 9^7) only [seval, exC, c_soft_Mul, apart_ip, o1, i5_20, i5_21, r5_0, r5_5, h5, h4, h1, inf]) | (simp (maxSteps := 9^7) (disch := first | with_reducible assumption | omega) only [dxB]) | (simp only [kdB]; split) | (simp only [kvB]; split))
        all_goals try rfl
    · rw [decide_eq_false q4] at h4
      rw [if_neg (show ¬ ((ca = 4 ∨ cb = 4) ∧ (ca = 1 ∨ cb = 1)) from fun h => q4 h.1), if_neg q4]
      by_cases q1 : ca = 1 ∨ cb = 1
      · rw [decide_eq_true q1] at h1
        rw [if_pos q1]
        repeat' (first | (simp (maxSteps := 9^7) only [seval, exC, c_soft_Mul, apart_ip, o1, i5_20, i5_21, r5_0, r5_5, h5, h4, h1, ze]) | (simp (maxSteps := 9^7) (disch := first | with_reducible assumption | omega) only [dxB]) | (simp only [kdB]; split) | (simp only [kvB]; split))
        all_goals try rfl
      · rw [decide_eq_false q1] at h1
        rw [if_neg q1]
        repeat' (first | (simp (maxSteps := 9^7) only [seval, exC, c_soft_Mul, apart_ip, o1, i5_20, i5_21, r5_0, r5_5, h5, h4, h1, m1, s1]) | (simp (maxSteps := 9^7) (disch := first | with_reducible assumption | omega) only [dxB]) | (simp only [kdB]; split) | (simp only [kvB]; split))
        all_goals try rfl
end Go.Cv
