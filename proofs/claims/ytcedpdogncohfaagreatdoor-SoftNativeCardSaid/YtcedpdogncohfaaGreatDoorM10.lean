/-
  A part of the proof of the statements of this seat (texts that the law's own text leans on): no condition.
-/
import Derived.Test.YtcedpdogncohfaaGreatDoorM9
import Derived.Test.YtcedpdogncohfaaGreatDoorM6
import Derived.Test.YtcedpdogncohfaaGreatDoorM8
set_option linter.unusedVariables false
set_option linter.unusedSimpArgs false
namespace Go.Cv
variable {G : Nat → Option (List AV)} {T : Tbl} {g : Nat}
theorem fm_facts (F : Fm) : (F.fr = 23 ∧ F.low = -149 ∧ F.wide = 128) ∨ (F.fr = 52 ∧ F.low = -1074 ∧ F.wide = 1024) := by
  cases F
  · exact Or.inl ⟨rfl, rfl, rfl⟩
  · exact Or.inr ⟨rfl, rfl, rfl⟩
def partW (F : Fm) (md : Int) (neg : Bool) (w : Nat) (more : Bool) (top : Int) : Nat × Nat :=
  wordOf F md neg (rdN md neg w more (F.eOf top - top + 64).toNat).1 (rdN md neg w more (F.eOf top - top + 64).toNat).2 (F.eOf top) top (rdN md neg w more (63 - F.fr)).1
set_option maxHeartbeats 4000000 in
theorem round_word (J : Al G T g) (F : Fm) {m : Int} (hm : 1 ≤ m ∧ m ≤ 5) {neg more : Bool} {w : Nat} {top : Int} (hw : blen w = 64) (ht : -549755813888 < top ∧ top < 549755813888) :
    run G T 24 [partA w top more, .int .u8 F.u, fmA F, .int .u8 m, .bool neg] = some (.tup [.int .u64 ((partW F m neg w more top).1 : Int), .int .u8 ((partW F m neg w more top).2 : Int)]) := by
  rw [run_k G T J.E.round_part_word]
  have hF := fm_facts F
  have hE : max (top - ((F.fr : Int) + 1)) F.low = F.eOf top := by unfold Fm.eOf; omega
  have u1 := round_units (G := G) J (m := m) (neg := neg) (more := more) (w := w) (k := (F.eOf top - top + 64).toNat) (e := F.eOf top) (top := top) hw (by omega) (by omega) (by omega) (by omega)
  have u2 := round_units (G := G) J (m := m) (neg := neg) (more := more) (w := w) (k := 63 - F.fr) (e := top - ((F.fr : Int) + 1)) (top := top) hw (by omega) (by omega) (by omega) (by omega)
  have b1 := rdN_bd (md := m) (neg := neg) (more := more) hw (k := (F.eOf top - top + 64).toNat) (p := F.fr + 1) (by omega)
  have b2 := rdN_bd (md := m) (neg := neg) (more := more) hw (k := 63 - F.fr) (p := F.fr + 1) (by omega)
  have l1 : F.eOf top = F.low ∨ 2 ^ F.fr ≤ (rdN m neg w more (F.eOf top - top + 64).toNat).1 := by
    by_cases h : F.eOf top = F.low
    · exact Or.inl h
    · right
      have := rdN_lo (md := m) (neg := neg) (more := more) hw (k := (F.eOf top - top + 64).toNat) (by omega)
      rwa [show 63 - (F.eOf top - top + 64).toNat = F.fr by omega] at this
  have hp : 2 ^ (F.fr + 1) ≤ 9007199254740992 := by cases F <;> decide
  have o1 := round_Over (G := G) J F hm (neg := neg)
  unfold partW
  generalize (F.eOf top - top + 64).toNat = k at *
  obtain ⟨n, ex, hR⟩ : ∃ n ex, rdN m neg w more k = (n, ex) := ⟨_, _, rfl⟩
  obtain ⟨fine, ex2, hR2⟩ : ∃ n ex, rdN m neg w more (63 - F.fr) = (n, ex) := ⟨_, _, rfl⟩
  rw [hR] at u1 b1 l1 ⊢
  rw [hR2] at u2 b2 ⊢
  simp only at *
  have c1 := bits_Len64 J (x := n) (by omega)
  have c2 := bits_Len64 J (x := fine) (by omega)
  have q1 : blen n ≤ 54 := blen_le.2 (by omega)
  have q2 : blen fine ≤ 54 := blen_le.2 (by omega)
  obtain ⟨z1, f1⟩ := nat_Of J (n := n) (by omega)
  by_cases hov : F.wide < blen n + F.eOf top
  · simp only [wordOf, if_pos hov]
    simp only [partA, fmA] at *
    repeat' (first | (simp (maxSteps := 9^7) only [seval, exC, c_round_part_word, hE, u1, c1, o1]) | (simp (maxSteps := 9^7) (disch := first | with_reducible assumption | omega) only [dxB]) | (simp only [kdB]; split) | (simp only [kvB]; split))
  · by_cases hn : n = 0
    · subst hn
      have hlow : F.eOf top = F.low := by
        rcases l1 with h | h
        · exact h
        · have := Nat.two_pow_pos F.fr; omega
      obtain ⟨z2, f2⟩ := dyad_Make J (n := neg) (z := z1) (a := 0) (e := F.eOf top) (mayL_small (by rw [blen_zero]; omega)) (Or.inl rfl) (by omega)
      rw [mkD_zero] at f2
      have f3 := word_Of_zero J F (z := z2)
      have f4 := word_Zero J F (n := neg)
      have e0 : F.enc 0 (F.eOf top) = 0 := by rw [hlow]; simp [Fm.enc]
      simp only [wordOf, if_neg hov, e0, Nat.zero_add]
      simp only [partA, fmA, DyA, A3, cast0] at *
      cases ex
      · repeat' (first | (simp (maxSteps := 9^7) only [seval, exC, c_round_part_word, hE, u1, c1, c2, u2, f1, f2, f3, f4]) | (simp (maxSteps := 9^7) (disch := first | with_reducible assumption | omega) only [dxB]) | (simp only [kdB]; split) | (simp only [kvB]; split))
        all_goals simp_all
        all_goals (split <;> omega)
      · repeat' (first | (simp (maxSteps := 9^7) only [seval, exC, c_round_part_word, hE, u1, c1, c2, u2, f1, f2, f3, f4]) | (simp (maxSteps := 9^7) (disch := first | with_reducible assumption | omega) only [dxB]) | (simp only [kdB]; split) | (simp only [kvB]; split))
        all_goals simp_all
    · have htz := tz_blen hn
      obtain ⟨z2, f2⟩ := dyad_Make J (n := neg) (z := z1) (a := n) (e := F.eOf top) (mayL_small (by omega)) (Or.inr (by omega)) (by omega)
      have hft := mkD_fits (F := F) (neg := neg) hn b1 (by omega : F.low ≤ F.eOf top) (by omega)
      have f3 := word_Of J F (z := z2) (mayD_mk (n := neg) (m := n) (e := F.eOf top) (by omega) (Or.inr (by omega))) hft
      rw [mkD_enc hn b1 (by omega) l1] at f3
      have hsn : (mkD neg n (F.eOf top)).n = neg := by rw [mkD_pos hn]
      rw [hsn] at f3
      simp only [wordOf, if_neg hov]
      have hn' : ¬ (n : Int) = 0 := by omega
      simp only [partA, fmA, DyA, A3] at *
      cases ex
      · repeat' (first | (simp (maxSteps := 9^7) only [seval, exC, c_round_part_word, hE, u1, c1, c2, u2, f1, f2, f3, hn']) | (simp (maxSteps := 9^7) (disch := first | with_reducible assumption | omega) only [dxB]) | (simp only [kdB]; split) | (simp only [kvB]; split))
        all_goals simp_all
        all_goals (split <;> omega)
      · repeat' (first | (simp (maxSteps := 9^7) only [seval, exC, c_round_part_word, hE, u1, c1, c2, u2, f1, f2, f3, hn']) | (simp (maxSteps := 9^7) (disch := first | with_reducible assumption | omega) only [dxB]) | (simp only [kdB]; split) | (simp only [kvB]; split))
        all_goals simp_all
theorem partW_eq (F : Fm) (md : Int) {d : Dy} (h : d.m ≠ 0) : partW F md d.n (headN d.m) (behindN d.m) (d.e + blen d.m) = rndW F md d := by
  have hF := fm_facts F
  have e1 := rdN_part md d.n h d.e (F.eOf (d.e + blen d.m)) (by unfold Fm.eOf; omega)
  have e2 := rdN_part md d.n h d.e (d.e + blen d.m - F.fr - 1) (by omega)
  rw [show (d.e + (blen d.m : Int) - F.fr - 1 - (d.e + blen d.m) + 64).toNat = 63 - F.fr by omega] at e2
  simp only [partW, rndW, if_neg h, headN, behindN, e1, e2]
theorem sign_may {n : Bool} {m : Nat} {e : Int} (h : mayD n (dl m) e = true) : (if mayD n (dl m) e = false ∨ (dl m).length = 0 then (0 : Int) else if n then -1 else 1) = if m = 0 then 0 else if n then -1 else 1 := by
  simp [h, dl_eq_nil]
theorem mayD_facts {n : Bool} {l : List Nat} {e : Int} (h : mayD n l e = true) : mayL l = true ∧ (l.length = 0 → n = false ∧ e = 0) ∧ (l.length ≠ 0 → dg l 0 % 2 = 1) ∧ -16777216 ≤ e ∧ e ≤ 16777216 := by
  simp only [mayD, Bool.and_eq_true] at h
  obtain ⟨h1, h2⟩ := h
  refine ⟨h1, ?_⟩
  by_cases h0 : l.length = 0
  · rw [if_pos h0] at h2
    simp only [Bool.and_eq_true, Bool.not_eq_true', decide_eq_true_eq] at h2
    exact ⟨fun _ => h2, fun h => absurd h0 h, by omega, by omega⟩
  · rw [if_neg h0] at h2
    simp only [Bool.and_eq_true, decide_eq_true_eq] at h2
    exact ⟨fun h => absurd h h0, fun _ => h2.1, h2.2.1, h2.2.2⟩
theorem round_Round (J : Al G T g) (F : Fm) {m : Int} (hm : 1 ≤ m ∧ m ≤ 5) {z : Bool} {d : Dy} (hd : mayD d.n (dl d.m) d.e = true) :
    run G T 7 [.int .u8 F.u, .int .u8 m, DyA z d] = some (.tup [.int .u64 ((rndW F m d).1 : Int), .int .u8 ((rndW F m d).2 : Int), .int .i64 0]) := by
  rw [run_k G T J.E.round_Round]
  obtain ⟨f1, f2, f3, f4, f5⟩ := mayD_facts hd
  have o1 := round_open1 (G := G) J F hm (n := d.n) (z := z) (Dg_dl d.m) (e := d.e)
  rw [hd, if_pos rfl] at o1
  have s1 := dyad_Sign (G := G) J (n := d.n) (z := z) (Dg_dl d.m) (e := d.e)
  rw [sign_may hd] at s1
  by_cases h0 : d.m = 0
  · rw [if_pos h0] at s1
    simp only [rndW, if_pos h0]
    simp only [DyA, A3, fmA] at *
    repeat' (first | (simp (maxSteps := 9^7) only [seval, exC, c_round_Round, o1, s1]) | (simp (maxSteps := 9^7) (disch := first | with_reducible assumption | omega) only [dxB]) | (simp only [kdB]; split) | (simp only [kvB]; split))
    all_goals rfl
  · have hb := may_blen f1
    have p1 := round_partOf (G := G) J (z := z) f1 h0 (by omega)
    have w1 := round_word (G := G) J F hm (neg := d.n) (more := behindN d.m) (w := headN d.m) (top := d.e + blen d.m) (headN_blen h0) (by omega)
    rw [partW_eq F m h0] at w1
    rw [if_neg h0] at s1
    cases hn : d.n <;> (
      simp only [DyA, A3, fmA, partA, hn, Bool.false_eq_true, if_true, if_false] at *
      repeat' (first | (simp (maxSteps := 9^7) only [seval, exC, c_round_Round, o1, s1, p1, w1]) | (simp (maxSteps := 9^7) (disch := first | with_reducible assumption | omega) only [dxB]) | (simp only [kdB]; split) | (simp only [kvB]; split)))
def iv (d : Dy) (L : Int) : Int := (if d.n then -1 else 1) * ((d.m * 2 ^ (d.e - L).toNat : Nat) : Int)
def LoE (d : Dy) (L : Int) : Prop := d.m = 0 ∨ L ≤ d.e
def sgI (x : Int) : Int := if x < 0 then -1 else if 0 < x then 1 else 0
theorem iv_zero {d : Dy} (h : d.m = 0) (L : Int) : iv d L = 0 := by simp [iv, h]
theorem two_split {a b c : Int} (h1 : a ≤ b) (h2 : b ≤ c) : 2 ^ (c - a).toNat = 2 ^ (c - b).toNat * 2 ^ (b - a).toNat := by
  rw [← Nat.pow_add]; congr 1; omega
theorem mkD_val {n : Bool} {m : Nat} (h : m ≠ 0) {e L : Int} (hL : L ≤ e) : (mkD n m e).m * 2 ^ ((mkD n m e).e - L).toNat = m * 2 ^ (e - L).toNat := by
  rw [mkD_pos h]
  simp only
  rw [two_split (b := e) hL (by omega), show (e + (tz m : Int) - e).toNat = tz m by omega, ← Nat.mul_assoc, ← (tz_spec h).1]
theorem mkD_n {n : Bool} {m : Nat} (h : m ≠ 0) (e : Int) : (mkD n m e).n = n := by rw [mkD_pos h]
theorem iv_mk {n : Bool} {m : Nat} {e L : Int} (hL : L ≤ e) : iv (mkD n m e) L = (if n then -1 else 1) * ((m * 2 ^ (e - L).toNat : Nat) : Int) := by
  by_cases h : m = 0
  · subst h; rw [mkD_zero]; simp [iv]
  · unfold iv; rw [mkD_val h hL, mkD_n h]
theorem LoE_mk {n : Bool} {m : Nat} {e L : Int} (hL : L ≤ e) : LoE (mkD n m e) L := by
  by_cases h : m = 0
  · subst h; exact Or.inl rfl
  · right; rw [mkD_pos h]; simp only; omega
theorem LoE.mono {d : Dy} {L L' : Int} (h : LoE d L) (hl : L' ≤ L) : LoE d L' := h.imp id (by omega)
theorem iv_scale {d : Dy} {L L' : Int} (h : LoE d L) (hl : L' ≤ L) : iv d L' = iv d L * ((2 ^ (L - L').toNat : Nat) : Int) := by
  rcases h with h | h
  · rw [iv_zero h, iv_zero h]; simp
  · unfold iv
    rw [two_split hl h, ← Nat.mul_assoc, Int.natCast_mul, Int.mul_assoc]
theorem iv_neg (d : Dy) (L : Int) : iv (negD d) L = -iv d L := by
  unfold negD; split
  · next h => rw [iv_zero h]; rfl
  · unfold iv; cases d.n <;> simp
theorem LoE_neg {d : Dy} {L : Int} (h : LoE d L) : LoE (negD d) L := by
  unfold negD; split
  · exact h
  · exact h
theorem iv_abs (d : Dy) (L : Int) : iv (absD d) L = ((d.m * 2 ^ (d.e - L).toNat : Nat) : Int) := by simp [iv, absD]
theorem sgn_mul (n : Bool) (a b : Int) : (if n then -1 else 1) * a + (if n then -1 else 1) * b = (if n then -1 else 1) * (a + b) := by cases n <;> simp <;> omega
theorem iv_add {a b : Dy} {L : Int} (ha : LoE a L) (hb : LoE b L) : iv (addD a b) L = iv a L + iv b L ∧ LoE (addD a b) L := by
  unfold addD
  by_cases h0 : a.m = 0
  · rw [if_pos h0, iv_zero h0, Int.zero_add]; exact ⟨rfl, hb⟩
  · rw [if_neg h0]
    by_cases h1 : b.m = 0
    · rw [if_pos h1, iv_zero h1, Int.add_zero]; exact ⟨rfl, ha⟩
    · rw [if_neg h1]
      have la : L ≤ a.e := ha.resolve_left h0
      have lb : L ≤ b.e := hb.resolve_left h1
      have hL : L ≤ min a.e b.e := by omega
      have va : iv a L = (if a.n then -1 else 1) * (((a.m * 2 ^ (a.e - min a.e b.e).toNat) * 2 ^ (min a.e b.e - L).toNat : Nat) : Int) := by
        unfold iv; rw [two_split hL (show min a.e b.e ≤ a.e by omega), Nat.mul_assoc]
      have vb : iv b L = (if b.n then -1 else 1) * (((b.m * 2 ^ (b.e - min a.e b.e).toNat) * 2 ^ (min a.e b.e - L).toNat : Nat) : Int) := by
        unfold iv; rw [two_split hL (show min a.e b.e ≤ b.e by omega), Nat.mul_assoc]
      rw [va, vb]
      generalize a.m * 2 ^ (a.e - min a.e b.e).toNat = A
      generalize b.m * 2 ^ (b.e - min a.e b.e).toNat = B
      generalize hM : min a.e b.e = M at *
      by_cases hn : a.n = b.n
      · rw [if_pos hn]
        refine ⟨?_, LoE_mk hL⟩
        rw [iv_mk hL, ← hn, sgn_mul, Nat.add_mul, Int.natCast_add]
      · rw [if_neg hn]
        have hbn : b.n = !a.n := by cases h : a.n <;> cases h' : b.n <;> simp_all
        by_cases hc : B ≤ A
        · rw [if_pos hc]
          refine ⟨?_, LoE_mk hL⟩
          rw [iv_mk hL, hbn]
          have := Nat.mul_le_mul_right (2 ^ (M - L).toNat) hc
          rw [Nat.sub_mul, Int.natCast_sub this]
          cases a.n <;> simp <;> omega
        · rw [if_neg hc]
          refine ⟨?_, LoE_mk hL⟩
          rw [iv_mk hL, hbn]
          have := Nat.mul_le_mul_right (2 ^ (M - L).toNat) (by omega : A ≤ B)
          rw [Nat.sub_mul, Int.natCast_sub this]
          cases a.n <;> simp <;> omega
theorem iv_sub {a b : Dy} {L : Int} (ha : LoE a L) (hb : LoE b L) : iv (subD a b) L = iv a L - iv b L ∧ LoE (subD a b) L := by
  have h := iv_add ha (LoE_neg hb)
  rw [iv_neg] at h
  exact ⟨by unfold subD; rw [h.1]; omega, h.2⟩
theorem sgn_iv (d : Dy) (L : Int) : sgnD d = sgI (iv d L) := by
  unfold sgnD sgI iv
  have hp := Nat.two_pow_pos (d.e - L).toNat
  by_cases h : d.m = 0
  · simp [h]
  · rw [if_neg h]
    have : 0 < d.m * 2 ^ (d.e - L).toNat := Nat.mul_pos (by omega) hp
    generalize d.m * 2 ^ (d.e - L).toNat = X at *
    cases d.n <;> simp <;> omega
theorem top_lt {a b : Dy} {L : Int} (h0 : a.m ≠ 0) (h1 : b.m ≠ 0) (la : L ≤ a.e) (lb : L ≤ b.e) (h : a.e + blen a.m < b.e + blen b.m) : a.m * 2 ^ (a.e - L).toNat < b.m * 2 ^ (b.e - L).toNat := by
  have e1 := blen_mul h0 (a.e - L).toNat
  have e2 := blen_mul h1 (b.e - L).toNat
  have h2 : blen (a.m * 2 ^ (a.e - L).toNat) ≤ blen (b.m * 2 ^ (b.e - L).toNat) - 1 := by omega
  have h3 := blen_le.1 h2
  have h4 := pow_blen_le (n := b.m * 2 ^ (b.e - L).toNat) (by
    have := Nat.mul_pos (Nat.pos_of_ne_zero h1) (Nat.two_pow_pos (b.e - L).toNat); omega)
  omega
theorem cmp_iv {a b : Dy} {L : Int} (ha : LoE a L) (hb : LoE b L) : cmpD a b = sgI (iv a L - iv b L) := by
  unfold cmpD
  have sa := sgn_iv a L
  have sb := sgn_iv b L
  by_cases h1 : sgnD a = sgnD b
  · rw [if_neg (by simpa using h1)]
    by_cases h2 : sgnD a = 0
    · rw [if_pos h2]
      have z1 : a.m = 0 := by unfold sgnD at h2; split at h2; assumption; split at h2 <;> cases h2
      have z2 : b.m = 0 := by rw [h1] at h2; unfold sgnD at h2; split at h2; assumption; split at h2 <;> cases h2
      rw [iv_zero z1, iv_zero z2]; rfl
    · rw [if_neg h2]
      have n1 : a.m ≠ 0 := by intro h; apply h2; simp [sgnD, h]
      have n2 : b.m ≠ 0 := by intro h; apply h2; rw [h1]; simp [sgnD, h]
      have la := ha.resolve_left n1
      have lb := hb.resolve_left n2
      have hs : a.n = b.n := by
        unfold sgnD at h1; rw [if_neg n1, if_neg n2] at h1
        cases h : a.n <;> cases h' : b.n <;> simp_all
      have t1 : topD a = a.e + blen a.m := by unfold topD; rw [if_neg n1]
      have t2 : topD b = b.e + blen b.m := by unfold topD; rw [if_neg n2]
      have sg : sgnD a = if a.n then -1 else 1 := by unfold sgnD; rw [if_neg n1]
      by_cases h3 : topD a = topD b
      · rw [if_neg (by simpa using h3)]
        rw [sgn_iv _ L, (iv_sub ha hb).1]
      · rw [if_pos h3]
        rw [t1, t2] at *
        rcases Int.lt_or_gt_of_ne h3 with h4 | h4
        · have := top_lt n1 n2 la lb h4
          unfold iv sgI
          rw [← hs, sg, decide_eq_true h4]
          generalize a.m * 2 ^ (a.e - L).toNat = X at *
          generalize b.m * 2 ^ (b.e - L).toNat = Y at *
          cases a.n <;> simp <;> omega
        · have := top_lt n2 n1 lb la h4
          have h5 : ¬ (a.e + (blen a.m : Int) < b.e + blen b.m) := by omega
          unfold iv sgI
          rw [← hs, sg, decide_eq_false h5]
          generalize a.m * 2 ^ (a.e - L).toNat = X at *
          generalize b.m * 2 ^ (b.e - L).toNat = Y at *
          cases a.n <;> simp <;> omega
  · rw [if_pos (by simpa using h1)]
    rw [sa, sb] at *
    unfold sgI at *
    generalize iv a L = x at *
    generalize iv b L = y at *
    by_cases x1 : x < 0 <;> by_cases x2 : 0 < x <;> by_cases y1 : y < 0 <;> by_cases y2 : 0 < y <;> simp_all <;> omega
def sameD (a b : Dy) : Prop := a.n = b.n ∧ a.e = b.e ∧ a.m = b.m
instance (a b : Dy) : Decidable (sameD a b) := inferInstanceAs (Decidable (_ ∧ _ ∧ _))
theorem Bd.mono {d : Dy} {K L : Nat} (h : Bd d K) (hl : K ≤ L) : Bd d L := ⟨by have := h.bl; omega, by have := h.lo; omega, by have := h.hi; omega⟩
theorem Bd_mk {n : Bool} {m : Nat} {e : Int} {K : Nat} (h1 : blen m ≤ K) (h2 : -(K : Int) ≤ e) (h3 : e + blen m ≤ K) : Bd (mkD n m e) K := by
  by_cases h : m = 0
  · subst h; rw [mkD_zero]; exact ⟨by simp only [blen_zero]; omega, by simp only; omega, by simp only; omega⟩
  · rw [mkD_pos h]
    have := tz_blen h
    exact ⟨by simp only [blen_div]; omega, by simp only; omega, by simp only; omega⟩
theorem Bd_add {a b : Dy} {K : Nat} (ha : Bd a K) (hb : Bd b K) : Bd (addD a b) (4 * K + 1) := by
  obtain ⟨a1, a2, a3⟩ := ha
  obtain ⟨b1, b2, b3⟩ := hb
  unfold addD
  have x1 := blen_mul_le a.m (a.e - min a.e b.e).toNat
  have x2 := blen_mul_le b.m (b.e - min a.e b.e).toNat
  generalize a.m * 2 ^ (a.e - min a.e b.e).toNat = A at *
  generalize b.m * 2 ^ (b.e - min a.e b.e).toNat = B at *
  have s1 := blen_add_le A B
  have s2 := blen_mono (Nat.sub_le A B)
  have s3 := blen_mono (Nat.sub_le B A)
  split
  · exact ⟨by omega, by omega, by omega⟩
  · split
    · exact ⟨by omega, by omega, by omega⟩
    · split
      · exact Bd_mk (by omega) (by omega) (by omega)
      · split
        · exact Bd_mk (by omega) (by omega) (by omega)
        · exact Bd_mk (by omega) (by omega) (by omega)
def lowD (x : Dy) (u : Int) : Dy := shD (floorD (shD x (-u))) u
def evenD (x : Dy) (u : Int) : Prop := sameD (floorD (shD (shD (lowD x u) (-u)) (-1))) (shD (shD (lowD x u) (-u)) (-1))
instance (x : Dy) (u : Int) : Decidable (evenD x u) := inferInstanceAs (Decidable (sameD _ _))
def Nz (d : Dy) : Prop := (d.m = 0 → d = ⟨false, 0, 0⟩) ∧ (d.m ≠ 0 → d.m % 2 = 1)
theorem Nz_mk (n : Bool) (m : Nat) (e : Int) : Nz (mkD n m e) := by
  by_cases h : m = 0
  · subst h; rw [mkD_zero]; exact ⟨fun _ => rfl, fun h => absurd rfl h⟩
  · have h0 := mkD_m0 (n := n) h e
    refine ⟨fun h1 => absurd h1 h0, fun _ => ?_⟩
    rw [mkD_pos h]; exact (tz_spec h).2
theorem Nz_neg {d : Dy} (h : Nz d) : Nz (negD d) := by
  unfold negD; split
  · exact h
  · next h0 => exact ⟨fun h1 => absurd h1 h0, h.2⟩
theorem Nz_add {a b : Dy} (ha : Nz a) (hb : Nz b) : Nz (addD a b) := by
  unfold addD; split
  · exact hb
  · split
    · exact ha
    · split
      · exact Nz_mk ..
      · split <;> exact Nz_mk ..
theorem nz_eq {a b : Dy} {L : Int} (ha : Nz a) (hb : Nz b) (la : LoE a L) (lb : LoE b L) (h : iv a L = iv b L) : a = b := by
  have hp := fun d : Dy => Nat.two_pow_pos (d.e - L).toNat
  by_cases h0 : a.m = 0
  · have h1 : b.m = 0 := by
      rw [iv_zero h0] at h
      unfold iv at h
      have h2 := hp b
      rcases Nat.eq_zero_or_pos (b.m * 2 ^ (b.e - L).toNat) with h3 | h3
      · rcases Nat.mul_eq_zero.1 h3 with h4 | h4
        · exact h4
        · omega
      · exfalso
        generalize b.m * 2 ^ (b.e - L).toNat = X at *
        cases hb : b.n <;> simp [hb] at h <;> omega
    rw [ha.1 h0, hb.1 h1]
  · have h1 : b.m ≠ 0 := by
      intro h1
      rw [iv_zero h1] at h
      unfold iv at h
      have h3 := Nat.mul_pos (Nat.pos_of_ne_zero h0) (hp a)
      generalize a.m * 2 ^ (a.e - L).toNat = X at *
      cases hb : a.n <;> simp [hb] at h <;> omega
    have p1 := Nat.mul_pos (Nat.pos_of_ne_zero h0) (hp a)
    have p2 := Nat.mul_pos (Nat.pos_of_ne_zero h1) (hp b)
    unfold iv at h
    have hX : a.m * 2 ^ (a.e - L).toNat = b.m * 2 ^ (b.e - L).toNat ∧ a.n = b.n := by
      generalize a.m * 2 ^ (a.e - L).toNat = X at *
      generalize b.m * 2 ^ (b.e - L).toNat = Y at *
      cases ha : a.n <;> cases hb : b.n <;> simp [ha, hb] at h ⊢ <;> omega
    obtain ⟨hX, hn⟩ := hX
    have t1 := tz_unique (k := (a.e - L).toNat) (ha.2 h0)
    have t2 := tz_unique (k := (b.e - L).toNat) (hb.2 h1)
    rw [hX, t2] at t1
    have l1 := la.resolve_left h0
    have l2 := lb.resolve_left h1
    have he : a.e = b.e := by omega
    rw [he] at hX
    have hm := Nat.eq_of_mul_eq_mul_right (hp b) hX
    obtain ⟨n, m, e⟩ := a
    obtain ⟨n', m', e'⟩ := b
    simp only at *
    subst he hm hn; rfl
theorem sgI_neg {x : Int} : sgI x < 0 ↔ x < 0 := by unfold sgI; split <;> (try split) <;> omega
theorem sgI_pos {x : Int} : 0 < sgI x ↔ 0 < x := by unfold sgI; split <;> (try split) <;> omega
theorem half_spec (m : Nat) {k : Nat} (hk : 0 < k) : m % 2 ^ k = (if halfN m k then 2 ^ (k - 1) else 0) + m % 2 ^ (k - 1) ∧ m % 2 ^ (k - 1) < 2 ^ (k - 1) ∧ 2 ^ k = 2 * 2 ^ (k - 1) := by
  obtain ⟨i, rfl⟩ : ∃ i, k = i + 1 := ⟨k - 1, by omega⟩
  refine ⟨?_, Nat.mod_lt _ (Nat.two_pow_pos _), by rw [Nat.add_sub_cancel, Nat.pow_succ]; omega⟩
  rw [Nat.pow_succ, Nat.mod_mul, Nat.add_sub_cancel]
  simp only [halfN, Nat.add_sub_cancel]
  have : m / 2 ^ i % 2 = 0 ∨ m / 2 ^ i % 2 = 1 := by omega
  rcases this with h | h <;> simp [h] <;> omega
theorem rnd_bd (F : Fm) {md : Int} {d : Dy} (h : d.m ≠ 0) : (rnd md d.n d.m d.e (F.eOf (d.e + blen d.m))).1 ≤ 2 ^ (F.fr + 1) ∧
    (F.eOf (d.e + blen d.m) = F.low ∨ 2 ^ F.fr ≤ (rnd md d.n d.m d.e (F.eOf (d.e + blen d.m))).1) ∧
    (rnd md d.n d.m d.e (d.e + blen d.m - F.fr - 1)).1 ≤ 2 ^ (F.fr + 1) ∧ 2 ^ F.fr ≤ (rnd md d.n d.m d.e (d.e + blen d.m - F.fr - 1)).1 := by
  have hF := fm_facts F
  have hw := headN_blen h
  have e1 := rdN_part md d.n h d.e (F.eOf (d.e + blen d.m)) (by unfold Fm.eOf; omega)
  have e2 := rdN_part md d.n h d.e (d.e + blen d.m - F.fr - 1) (by omega)
  have hE : F.eOf (d.e + blen d.m) = max (d.e + blen d.m - F.fr - 1) F.low := rfl
  change rdN md d.n (headN d.m) (behindN d.m) _ = _ at e1 e2
  rw [← e1, ← e2]
  rw [show (d.e + (blen d.m : Int) - F.fr - 1 - (d.e + blen d.m) + 64).toNat = 63 - F.fr by omega]
  refine ⟨rdN_bd hw (by omega), ?_, rdN_bd hw (by omega), ?_⟩
  · by_cases hl : F.eOf (d.e + blen d.m) = F.low
    · exact Or.inl hl
    · right
      rw [show (F.eOf (d.e + (blen d.m : Int)) - (d.e + blen d.m) + 64).toNat = 63 - F.fr by omega]
      have := rdN_lo (md := md) (neg := d.n) (more := behindN d.m) hw (k := 63 - F.fr) (by omega)
      rwa [show 63 - (63 - F.fr) = F.fr by omega] at this
  · have := rdN_lo (md := md) (neg := d.n) (more := behindN d.m) hw (k := 63 - F.fr) (by omega)
    rwa [show 63 - (63 - F.fr) = F.fr by omega] at this
theorem mayD_nz {n : Bool} {m : Nat} {e : Int} (h : mayD n (dl m) e = true) : Nz ⟨n, m, e⟩ := by
  obtain ⟨f1, f2, f3, f4, f5⟩ := mayD_facts h
  refine ⟨fun h0 => ?_, fun h0 => ?_⟩
  · simp only at h0; subst h0
    obtain ⟨a, b⟩ := f2 (by rw [dl_zero]; rfl)
    rw [a, b]
  · have := f3 (by rw [ne_eq, dl_len0]; exact h0)
    rwa [dg0] at this
def Fm.ng (F : Fm) (w : Nat) : Bool := decide (F.sg ≤ w)
def Fm.ex (F : Fm) (w : Nat) : Nat := w % F.sg / 2 ^ F.fr
def Fm.fc (F : Fm) (w : Nat) : Nat := w % F.sg % 2 ^ F.fr
def Fm.cls (F : Fm) (w : Nat) : Int := if F.ex w = 0 then (if F.fc w = 0 then 1 else 2) else if F.ex w < F.most then 3 else if F.fc w = 0 then 4 else 5
def Fm.val (F : Fm) (w : Nat) : Dy := if F.ex w = 0 then mkD (F.ng w) (F.fc w) F.low else mkD (F.ng w) (2 ^ F.fr + F.fc w) (F.ex w - 1 + F.low)
def Fm.ok (F : Fm) (w : Nat) : Prop := w < 2 * F.sg
def Fm.fin (F : Fm) (w : Nat) : Prop := F.ex w < F.most
instance (F : Fm) (w : Nat) : Decidable (F.fin w) := inferInstanceAs (Decidable (_ < _))
instance (F : Fm) (w : Nat) : Decidable (F.ok w) := inferInstanceAs (Decidable (_ < _))
theorem fin_cls (F : Fm) (w : Nat) : F.fin w ↔ F.cls w ≠ 4 ∧ F.cls w ≠ 5 := by
  have hm : 0 < F.most := by cases F <;> decide
  unfold Fm.fin Fm.cls
  generalize F.ex w = x
  generalize F.fc w = y
  repeat' split
  all_goals omega
def Fm.up (F : Fm) (w : Nat) : Nat × Bool := if F.cls w = 4 ∧ F.ng w = false then (0, false) else if F.cls w = 1 then (1, true) else if F.ng w then (w - 1, true) else (w + 1, true)
theorem Bd_val (F : Fm) {w : Nat} (hf : F.fin w) : Bd (F.val w) 4096 := by
  have hm : F.most ≤ 2047 := by cases F <;> decide
  have hy : F.fc w < 2 ^ F.fr := Nat.mod_lt _ (Nat.two_pow_pos _)
  have hp : 2 ^ F.fr ≤ 4503599627370496 := by cases F <;> decide
  have hF := fm_facts F
  unfold Fm.fin at hf
  unfold Fm.val
  generalize F.ex w = x at *
  generalize F.fc w = y at *
  have hb1 : blen y ≤ 53 := blen_le.2 (by omega)
  have hb2 : blen (2 ^ F.fr + y) ≤ 53 := blen_le.2 (by omega)
  split
  · exact Bd_mk (by omega) (by omega) (by omega)
  · exact Bd_mk (by omega) (by omega) (by omega)
section
end
def aboveW (F : Fm) (a b : Nat) : Bool := if a = F.inf false ∨ b = F.inf true then true else if a = F.inf true ∨ b = F.inf false then decide (a = b) else decide (0 ≤ cmpD (F.val a) (F.val b))
theorem upB_ex (md : Int) (neg odd : Bool) : upB md neg odd false false = false := by simp [upB]
theorem rnd_L (md : Int) (neg : Bool) (M : Nat) {E u L : Int} (h1 : L ≤ E) (h2 : L < u) : rnd md neg M E u = rdN md neg (M * 2 ^ (E - L).toNat) false (u - L).toNat := by
  rw [rdN_up _ _ _ _ _ (by omega)]
  unfold rnd
  by_cases h : u ≤ E
  · rw [if_pos h, if_pos (by omega), show (E - L).toNat - (u - L).toNat = (E - u).toNat by omega]
  · rw [if_neg h, if_neg (by omega), show (u - L).toNat - (E - L).toNat = (u - E).toNat by omega]
structure Rd (md : Int) (neg : Bool) (A U W : Nat) (ex b : Bool) : Prop where
  lo : W * U ≤ A
  hi : A < (W + 1) * U
  exi : ex = true ↔ A = W * U
  xb : ex = true → b = false
  b3 : md = 3 → b = false
  b4 : md = 4 → b = (!neg && !ex)
  b5 : md = 5 → b = (neg && !ex)
  near : md = 1 ∨ md = 2 → (b = true → (2 * W + 1) * U ≤ 2 * A) ∧ (b = false → 2 * A ≤ (2 * W + 1) * U)
theorem rdN_Rd (md : Int) (neg : Bool) (A : Nat) {k : Nat} (hk : 0 < k) : ∃ b, rdN md neg A false k = (A / 2 ^ k + b.toNat, decide (A % 2 ^ k = 0)) ∧ Rd md neg A (2 ^ k) (A / 2 ^ k) (decide (A % 2 ^ k = 0)) b := by
  obtain ⟨q1, q2, q3⟩ := half_spec A hk
  have hd := Nat.div_add_mod A (2 ^ k)
  have hml := Nat.mod_lt A (Nat.two_pow_pos k)
  refine ⟨upB md neg (decide (A / 2 ^ k % 2 = 1)) (halfN A k) (moreN A false k), ?_, ?_⟩
  · simp only [rdN]
    congr 1
    simp only [moreN, Bool.false_or]
    cases hh : halfN A k
    · rw [hh] at q1; simp only [Bool.false_eq_true, if_false, Nat.zero_add] at q1
      rw [q1]; simp
    · rw [hh] at q1; simp only [if_true] at q1
      have : A % 2 ^ k ≠ 0 := by omega
      simp [this]
  · have hmo : moreN A false k = decide (A % 2 ^ (k - 1) ≠ 0) := by simp [moreN]
    rw [hmo]
    generalize halfN A k = hf at *
    generalize A % 2 ^ (k - 1) = S at *
    generalize A % 2 ^ k = R at *
    generalize A / 2 ^ k = W at *
    rw [q3] at *
    generalize 2 ^ (k - 1) = P at *
    have e1 : W * (2 * P) = 2 * P * W := Nat.mul_comm ..
    have e2 : (W + 1) * (2 * P) = 2 * P * W + 2 * P := by rw [Nat.add_mul, Nat.one_mul, e1]
    have e3 : (2 * W + 1) * (2 * P) = 2 * (2 * P * W) + 2 * P := by rw [Nat.add_mul, Nat.one_mul, Nat.mul_assoc, e1]
    refine ⟨by rw [e1]; omega, by rw [e2]; omega, ?_, ?_, ?_, ?_, ?_, ?_⟩
    · rw [decide_eq_true_eq, e1]; omega
    · intro h; simp only [decide_eq_true_eq] at h
      have : hf = false ∧ S = 0 := by cases hf <;> simp at q1 <;> (try constructor) <;> (try rfl) <;> omega
      rw [this.1, this.2]; exact upB_ex ..
    · rintro rfl; simp [upB]
    · rintro rfl
      cases hf <;> cases neg <;> by_cases hS : S = 0 <;> simp [upB, hS] at q1 ⊢ <;> omega
    · rintro rfl
      cases hf <;> cases neg <;> by_cases hS : S = 0 <;> simp [upB, hS] at q1 ⊢ <;> omega
    · rw [e3]
      generalize 2 * P * W = Q at *
      rintro (rfl | rfl)
      · cases hf <;> by_cases hS : S = 0 <;> simp [upB, hS] at q1 ⊢ <;> (try constructor) <;> (try intro _) <;> omega
      · cases hf <;> by_cases hS : S = 0 <;> simp [upB, hS] at q1 ⊢ <;> omega
theorem rnd_Rd (md : Int) (neg : Bool) (M : Nat) {E u L : Int} (h1 : L ≤ E) (h2 : L < u) :
    ∃ b, rnd md neg M E u = (M * 2 ^ (E - L).toNat / 2 ^ (u - L).toNat + b.toNat, decide (M * 2 ^ (E - L).toNat % 2 ^ (u - L).toNat = 0)) ∧
      Rd md neg (M * 2 ^ (E - L).toNat) (2 ^ (u - L).toNat) (M * 2 ^ (E - L).toNat / 2 ^ (u - L).toNat) (decide (M * 2 ^ (E - L).toNat % 2 ^ (u - L).toNat = 0)) b := by
  rw [rnd_L md neg M h1 h2]
  exact rdN_Rd md neg _ (by omega)
theorem rdN_mono (md : Int) (neg : Bool) {A B : Nat} (h : A ≤ B) {k : Nat} (hk : 0 < k) : (rdN md neg A false k).1 ≤ (rdN md neg B false k).1 := by
  have hdiv : A / 2 ^ k ≤ B / 2 ^ k := Nat.div_le_div_right h
  have hb : ∀ b : Bool, b.toNat ≤ 1 := fun b => by cases b <;> decide
  simp only [rdN]
  by_cases he : A / 2 ^ k = B / 2 ^ k
  · rw [he]
    obtain ⟨q1, q2, q3⟩ := half_spec A hk
    obtain ⟨r1, r2, _⟩ := half_spec B hk
    have hd := Nat.div_add_mod A (2 ^ k)
    have hd' := Nat.div_add_mod B (2 ^ k)
    rw [he] at hd
    have hR : A % 2 ^ k ≤ B % 2 ^ k := by omega
    have m1 : moreN A false k = decide (A % 2 ^ (k - 1) ≠ 0) := by simp [moreN]
    have m2 : moreN B false k = decide (B % 2 ^ (k - 1) ≠ 0) := by simp [moreN]
    rw [m1, m2]
    generalize halfN A k = f1 at *
    generalize halfN B k = f2 at *
    generalize A % 2 ^ (k - 1) = S1 at *
    generalize B % 2 ^ (k - 1) = S2 at *
    generalize A % 2 ^ k = R1 at *
    generalize B % 2 ^ k = R2 at *
    generalize decide (B / 2 ^ k % 2 = 1) = od
    generalize 2 ^ (k - 1) = P at *
    have hle : (upB md neg od f1 (decide (S1 ≠ 0))) = true → (upB md neg od f2 (decide (S2 ≠ 0))) = true := by
      unfold upB
      clear hb m1 m2 hd hd' he hdiv h q3
      cases f1 <;> cases f2 <;> simp only [if_true, if_false, Bool.false_eq_true, Nat.zero_add] at q1 r1 <;> by_cases a : S1 = 0 <;> by_cases b : S2 = 0 <;>
        first
        | (exfalso; omega)
        | (cases neg <;> cases od <;> simp [a, b] <;> (try omega))
    generalize upB md neg od f1 (decide (S1 ≠ 0)) = b1 at *
    generalize upB md neg od f2 (decide (S2 ≠ 0)) = b2 at *
    cases b1 <;> cases b2 <;> simp at *
  · have := hb (upB md neg (decide (A / 2 ^ k % 2 = 1)) (halfN A k) (moreN A false k))
    omega
def Fm.i0 (F : Fm) : Nat := F.most * 2 ^ F.fr
theorem inf_eq (F : Fm) (n : Bool) : F.inf n = F.i0 + F.sgn n := rfl
theorem fm_i0 (F : Fm) : F.i0 + 2 ^ F.fr = F.sg ∧ 0 < F.i0 ∧ 0 < F.sg ∧ F.sg ≤ 9223372036854775808 ∧ F.i0 < F.sg := by cases F <;> decide
def magN (F : Fm) (s : Nat) : Nat := if s / 2 ^ F.fr = 0 then s % 2 ^ F.fr else (2 ^ F.fr + s % 2 ^ F.fr) * 2 ^ (s / 2 ^ F.fr - 1)
theorem magN_step (F : Fm) (s : Nat) : magN F s < magN F (s + 1) := by
  unfold magN
  have hp := Nat.two_pow_pos F.fr
  generalize 2 ^ F.fr = P at *
  have hd := Nat.div_add_mod s P
  have hm := Nat.mod_lt s hp
  have hd' := Nat.div_add_mod (s + 1) P
  have hm' := Nat.mod_lt (s + 1) hp
  by_cases h : s % P + 1 < P
  · have e1 : (s + 1) / P = s / P := by
      rw [Nat.div_eq_of_lt_le] <;> (rw [Nat.mul_comm]; try rw [Nat.mul_add]) <;> omega
    have e2 : (s + 1) % P = s % P + 1 := by rw [e1] at hd'; omega
    rw [e1, e2]
    by_cases h0 : s / P = 0
    · rw [if_pos h0, if_pos h0]; omega
    · rw [if_neg h0, if_neg h0]
      exact Nat.mul_lt_mul_of_pos_right (by omega) (Nat.two_pow_pos _)
  · have e1 : (s + 1) / P = s / P + 1 := by
      rw [Nat.div_eq_of_lt_le] <;> (rw [Nat.mul_comm]; rw [Nat.mul_add]; try rw [Nat.mul_add]) <;> omega
    have e2 : (s + 1) % P = 0 := by rw [e1, Nat.mul_add] at hd'; generalize P * (s / P) = Q at *; omega
    have e3 : ¬ (s / P + 1 = 0) := by generalize s / P = Q; omega
    rw [e1, e2]
    by_cases h0 : s / P = 0
    · rw [if_pos h0, h0]; simp; omega
    · rw [if_neg h0, if_neg e3]
      obtain ⟨k, hk⟩ := Nat.exists_eq_succ_of_ne_zero h0
      rw [hk]
      simp only [Nat.add_sub_cancel, Nat.add_zero]
      rw [Nat.pow_succ, ← Nat.mul_assoc, Nat.mul_comm (P * 2 ^ k) 2, ← Nat.mul_assoc]
      exact Nat.mul_lt_mul_of_pos_right (by omega) (Nat.two_pow_pos _)
theorem magN_lt (F : Fm) {a b : Nat} (h : a < b) : magN F a < magN F b := by
  obtain ⟨k, rfl⟩ : ∃ k, b = a + 1 + k := ⟨b - a - 1, by omega⟩
  clear h
  induction k with
  | zero => exact magN_step F a
  | succ k ih => exact Nat.lt_trans ih (magN_step F _)
theorem magN_le (F : Fm) {a b : Nat} (h : a ≤ b) : magN F a ≤ magN F b := by
  rcases Nat.lt_or_ge a b with h1 | h1
  · exact Nat.le_of_lt (magN_lt F h1)
  · rw [Nat.le_antisymm h h1]; exact Nat.le_refl _
theorem magN_zero (F : Fm) : magN F 0 = 0 := by simp [magN]
theorem magN_enc (F : Fm) {n : Nat} {u : Int} (h1 : n ≤ 2 ^ (F.fr + 1)) (h2 : F.low ≤ u) (h3 : u = F.low ∨ 2 ^ F.fr ≤ n) : magN F (F.enc n u) = n * 2 ^ (u - F.low).toNat := by
  unfold magN Fm.enc
  have hp := Nat.two_pow_pos F.fr
  rw [Nat.pow_succ] at h1
  generalize 2 ^ F.fr = P at *
  generalize hk : (u - F.low).toNat = k at *
  have h3' : k = 0 ∨ P ≤ n := by omega
  clear h3 h2 hk
  have q : ∀ j r, r < P → (j * P + r) / P = j ∧ (j * P + r) % P = r := fun j r hr => by
    constructor
    · rw [Nat.mul_comm, Nat.mul_add_div hp, Nat.div_eq_of_lt hr]; rfl
    · rw [Nat.mul_comm, Nat.mul_add_mod, Nat.mod_eq_of_lt hr]
  rcases Nat.lt_or_ge n P with h | h
  · obtain rfl : k = 0 := by omega
    obtain ⟨e1, e2⟩ := q 0 n h
    rw [e1, e2]; simp
  · rcases Nat.lt_or_ge n (2 * P) with h4 | h4
    · obtain ⟨e1, e2⟩ := q (k + 1) (n - P) (by omega)
      have e3 : (k + 1) * P + (n - P) = k * P + n := by rw [Nat.add_mul]; omega
      rw [e3] at e1 e2
      rw [e1, e2, if_neg (by omega), Nat.add_sub_cancel, show P + (n - P) = n by omega]
    · obtain rfl : n = 2 * P := by omega
      obtain ⟨e1, e2⟩ := q (k + 2) 0 hp
      have e3 : (k + 2) * P + 0 = k * P + 2 * P := by rw [Nat.add_mul]; rfl
      rw [e3] at e1 e2
      rw [e1, e2, if_neg (by omega), show k + 2 - 1 = k + 1 by omega, Nat.pow_succ, Nat.add_zero, Nat.mul_comm (2 ^ k) 2, ← Nat.mul_assoc, Nat.mul_comm P 2]
theorem sgn_mod {F : Fm} {s : Nat} (n : Bool) (h : s < F.sg) : (s + F.sgn n) % F.sg = s ∧ F.ng (s + F.sgn n) = n := by
  unfold Fm.sgn Fm.ng
  cases n
  · simp only [Bool.false_eq_true, if_false, Nat.add_zero]
    exact ⟨Nat.mod_eq_of_lt h, decide_eq_false (by omega)⟩
  · simp only [if_true]
    exact ⟨by rw [Nat.add_mod_right]; exact Nat.mod_eq_of_lt h, decide_eq_true (by omega)⟩
theorem fin_size {F : Fm} {s : Nat} (n : Bool) (h : s < F.i0) : F.fin (s + F.sgn n) := by
  have hi := fm_i0 F
  unfold Fm.fin Fm.ex
  rw [(sgn_mod n (by omega : s < F.sg)).1]
  exact Nat.div_lt_of_lt_mul (by rw [Nat.mul_comm]; exact h)
theorem cls_inf (F : Fm) (n : Bool) : F.cls (F.inf n) = 4 := by cases F <;> cases n <;> decide
theorem iv_val {F : Fm} {s : Nat} (n : Bool) (h : s < F.i0) : iv (F.val (s + F.sgn n)) F.low = (if n then -1 else 1) * (magN F s : Int) ∧ LoE (F.val (s + F.sgn n)) F.low ∧ Nz (F.val (s + F.sgn n)) := by
  have hi := fm_i0 F
  obtain ⟨e1, e2⟩ := sgn_mod n (by omega : s < F.sg)
  unfold Fm.val Fm.ex Fm.fc magN
  rw [e1, e2]
  split
  · next h0 =>
    refine ⟨?_, LoE_mk (Int.le_refl _), Nz_mk ..⟩
    rw [iv_mk (Int.le_refl _), Int.sub_self]; simp
  · next h0 =>
    have hx : F.low ≤ (s / 2 ^ F.fr : Nat) - 1 + F.low := by generalize s / 2 ^ F.fr = Q at *; omega
    refine ⟨?_, LoE_mk hx, Nz_mk ..⟩
    rw [iv_mk hx, show ((s / 2 ^ F.fr : Nat) - 1 + F.low - F.low : Int).toNat = s / 2 ^ F.fr - 1 by generalize s / 2 ^ F.fr = Q at *; omega]
theorem enc_succ (F : Fm) (n : Nat) (u : Int) : F.enc (n + 1) u = F.enc n u + 1 := rfl
theorem enc_big (F : Fm) {n : Nat} {u : Int} (h1 : n ≤ 2 ^ (F.fr + 1)) (h2 : F.low ≤ u) (h3 : u = F.low ∨ 2 ^ F.fr ≤ n) : (F.wide < blen n + u) ↔ F.i0 ≤ F.enc n u := by
  constructor
  · intro h
    have hF := fm_facts F
    have h3' : 2 ^ F.fr ≤ n := by
      rcases h3 with h3 | h3
      · exfalso
        have : blen n ≤ F.fr + 2 := blen_le.2 (Nat.lt_of_le_of_lt h1 (Nat.pow_lt_pow_right (by decide) (by omega)))
        omega
      · exact h3
    have hb := lt_blen.2 h3'
    have hm : (F.most : Int) = F.wide - F.low - F.fr + 1 := by cases F <;> decide
    unfold Fm.i0 Fm.enc
    rcases Nat.lt_or_ge n (2 ^ (F.fr + 1)) with h4 | h4
    · have := blen_le.2 h4
      obtain ⟨k, hk⟩ : ∃ k, (u - F.low).toNat = k := ⟨_, rfl⟩
      have h5 : F.most ≤ k + 1 := by omega
      have h6 := Nat.mul_le_mul_right (2 ^ F.fr) h5
      rw [Nat.add_mul, Nat.one_mul] at h6
      rw [hk]; omega
    · have h7 : n = 2 ^ F.fr * 2 := by rw [Nat.pow_succ] at h1 h4; omega
      have h8 : blen n = F.fr + 2 := by
        have := blen_mul (n := 1) (by decide) (F.fr + 1)
        rw [Nat.one_mul, Nat.pow_succ, ← h7, show blen 1 = 1 from rfl] at this; omega
      obtain ⟨k, hk⟩ : ∃ k, (u - F.low).toNat = k := ⟨_, rfl⟩
      have h5 : F.most ≤ k + 2 := by omega
      have h6 := Nat.mul_le_mul_right (2 ^ F.fr) h5
      rw [Nat.add_mul] at h6
      rw [hk]; omega
  · intro h
    by_cases hw : F.wide < blen n + u
    · exact hw
    · exfalso
      by_cases h0 : n = 0
      · subst h0
        have hu : u = F.low := by
          rcases h3 with h3 | h3
          · exact h3
          · have := Nat.two_pow_pos F.fr; omega
        rw [hu] at h
        have := (fm_i0 F).2.1
        simp [Fm.enc] at h; omega
      · have := enc_lt (mkD_fits (F := F) (neg := false) h0 h1 h2 (by omega))
        rw [mkD_enc h0 h1 h2 h3] at this
        unfold Fm.i0 at h; omega
end Go.Cv
namespace Go.Cv
def ovs (F : Fm) (md : Int) (neg : Bool) : Nat := if md = 3 ∨ (md = 4 ∧ neg = true) ∨ (md = 5 ∧ neg = false) then F.i0 - 1 else F.i0
theorem ovr_eq (F : Fm) (md : Int) (neg : Bool) : ovr F md neg = ovs F md neg + F.sgn neg := by
  have := fm_i0 F
  unfold ovr ovs
  rw [inf_eq]
  split <;> omega
structure Shp (F : Fm) (d : Dy) (L : Int) (A U W e0 : Nat) (u : Int) (ex : Bool) : Prop where
  hL : L < F.low ∧ L < d.e ∧ L < u
  hA : A = d.m * 2 ^ (d.e - L).toNat
  hU : U = 2 ^ (u - L).toNat
  lou : F.low ≤ u
  he0 : e0 = F.enc W u
  wb : W ≤ 2 ^ (F.fr + 1) ∧ (ex = false → W + 1 ≤ 2 ^ (F.fr + 1))
  wc : u = F.low ∨ 2 ^ F.fr ≤ W
  all : ∀ md : Int, 1 ≤ md → md ≤ 5 → ∃ b fl, rndW F md d = ((if F.i0 ≤ e0 + b.toNat then ovs F md d.n else e0 + b.toNat) + F.sgn d.n, if F.i0 ≤ e0 + b.toNat then 20 else if ex then 0 else fl) ∧
    (fl = 16 ∨ fl = 24) ∧ Rd md d.n A U W ex b
theorem shp_of (F : Fm) {d : Dy} (h0 : d.m ≠ 0) {L : Int} (l1 : L < F.low) (l2 : L < d.e) : ∃ A U W e0 u ex, Shp F d L A U W e0 u ex ∧ u = F.eOf (d.e + blen d.m) := by
  have hu : F.low ≤ F.eOf (d.e + blen d.m) := by unfold Fm.eOf; omega
  refine ⟨_, _, d.m * 2 ^ (d.e - L).toNat / 2 ^ (F.eOf (d.e + blen d.m) - L).toNat, _, F.eOf (d.e + blen d.m), decide (d.m * 2 ^ (d.e - L).toNat % 2 ^ (F.eOf (d.e + blen d.m) - L).toNat = 0), ⟨⟨l1, l2, by omega⟩, rfl, rfl, hu, rfl, ?_, ?_, ?_⟩, rfl⟩
  · obtain ⟨b, e1, R⟩ := rnd_Rd 3 d.n d.m (E := d.e) (u := F.eOf (d.e + blen d.m)) (L := L) (by omega) (by omega)
    have q := (rnd_bd F (md := 3) h0).1
    rw [e1, R.b3 rfl] at q
    refine ⟨by simpa using q, fun hx => ?_⟩
    cases hn : d.n
    · obtain ⟨b, e1, R⟩ := rnd_Rd 4 d.n d.m (E := d.e) (u := F.eOf (d.e + blen d.m)) (L := L) (by omega) (by omega)
      have q := (rnd_bd F (md := 4) h0).1
      rw [e1, R.b4 rfl, hx, hn] at q
      simpa using q
    · obtain ⟨b, e1, R⟩ := rnd_Rd 5 d.n d.m (E := d.e) (u := F.eOf (d.e + blen d.m)) (L := L) (by omega) (by omega)
      have q := (rnd_bd F (md := 5) h0).1
      rw [e1, R.b5 rfl, hx, hn] at q
      simpa using q
  · obtain ⟨b, e1, R⟩ := rnd_Rd 3 d.n d.m (E := d.e) (u := F.eOf (d.e + blen d.m)) (L := L) (by omega) (by omega)
    have q := (rnd_bd F (md := 3) h0).2.1
    rw [e1, R.b3 rfl] at q
    simpa using q
  · intro md m1 m2
    obtain ⟨b, e1, R⟩ := rnd_Rd md d.n d.m (E := d.e) (u := F.eOf (d.e + blen d.m)) (L := L) (by omega) (by omega)
    obtain ⟨q1, q2, _, _⟩ := rnd_bd F (md := md) h0
    have hb := enc_big F q1 hu q2
    have hs : rndW F md d = wordOf F md d.n (rnd md d.n d.m d.e (F.eOf (d.e + blen d.m))).1 (rnd md d.n d.m d.e (F.eOf (d.e + blen d.m))).2 (F.eOf (d.e + blen d.m)) (d.e + blen d.m) (rnd md d.n d.m d.e (d.e + blen d.m - F.fr - 1)).1 := by
      simp only [rndW, if_neg h0]
    have he : F.enc (rnd md d.n d.m d.e (F.eOf (d.e + blen d.m))).1 (F.eOf (d.e + blen d.m)) = F.enc (d.m * 2 ^ (d.e - L).toNat / 2 ^ (F.eOf (d.e + blen d.m) - L).toNat) (F.eOf (d.e + blen d.m)) + b.toNat := by
      rw [e1]; unfold Fm.enc; simp only; omega
    rw [he] at hb
    refine ⟨b, if blen (rnd md d.n d.m d.e (d.e + blen d.m - F.fr - 1)).1 + (d.e + blen d.m - F.fr - 1) < F.low + F.fr + 1 then 24 else 16, ?_, by split <;> simp, R⟩
    rw [hs]
    unfold wordOf
    rw [he]
    by_cases hv : F.wide < blen (rnd md d.n d.m d.e (F.eOf (d.e + blen d.m))).1 + F.eOf (d.e + blen d.m)
    · rw [if_pos hv, if_pos (hb.1 hv), if_pos (hb.1 hv), ovr_eq]
    · have hv' := fun h => hv (hb.2 h)
      rw [if_neg hv, if_neg hv', if_neg hv']
      congr 1
      rw [e1]
theorem iv_val_L {F : Fm} {s : Nat} (n : Bool) (h : s < F.i0) {L : Int} (hL : L ≤ F.low) : iv (F.val (s + F.sgn n)) L = (if n then -1 else 1) * ((magN F s * 2 ^ (F.low - L).toNat : Nat) : Int) ∧ LoE (F.val (s + F.sgn n)) L := by
  obtain ⟨h1, h2, _⟩ := iv_val n h
  refine ⟨?_, h2.mono hL⟩
  rw [iv_scale h2 hL, h1, Int.mul_assoc, ← Int.natCast_mul]
theorem iv_num {d : Dy} {L : Int} : iv d L = (if d.n then -1 else 1) * ((d.m * 2 ^ (d.e - L).toNat : Nat) : Int) := rfl
section
variable {F : Fm} {d : Dy} {L : Int} {A U W e0 : Nat} {u : Int} {ex : Bool}
theorem Shp.worth (S : Shp F d L A U W e0 u ex) : magN F e0 * 2 ^ (F.low - L).toNat = W * U := by
  rw [S.he0, magN_enc F S.wb.1 S.lou S.wc, S.hU, Nat.mul_assoc, ← Nat.pow_add]
  have := S.hL; have := S.lou
  rw [show (u - F.low).toNat + (F.low - L).toNat = (u - L).toNat by omega]
theorem Shp.worth1 (S : Shp F d L A U W e0 u ex) (hx : ex = false) : magN F (e0 + 1) * 2 ^ (F.low - L).toNat = (W + 1) * U := by
  rw [S.he0, ← enc_succ, magN_enc F (S.wb.2 hx) S.lou (S.wc.imp id fun h => by omega), S.hU, Nat.mul_assoc, ← Nat.pow_add]
  have := S.hL; have := S.lou
  rw [show (u - F.low).toNat + (F.low - L).toNat = (u - L).toNat by omega]
theorem cmp_size {s : Nat} (n : Bool) (h : s < F.i0) (hL : L ≤ F.low) (hd : LoE d L) : cmpD (F.val (s + F.sgn n)) d = sgI ((if n then -1 else 1) * ((magN F s * 2 ^ (F.low - L).toNat : Nat) : Int) - iv d L) := by
  obtain ⟨h1, h2⟩ := iv_val_L n h hL
  rw [cmp_iv h2 hd, h1]
end
end Go.Cv
namespace Go.Cv
theorem cls_size {F : Fm} {s : Nat} (n : Bool) (h : s ≤ F.i0) : (F.cls (s + F.sgn n) = 1 ↔ s = 0) ∧ (F.cls (s + F.sgn n) = 4 ↔ s = F.i0) ∧ F.cls (s + F.sgn n) ≠ 5 := by
  have hi := fm_i0 F
  obtain ⟨e1, e2⟩ := sgn_mod n (by omega : s < F.sg)
  unfold Fm.cls Fm.ex Fm.fc
  rw [e1]
  unfold Fm.i0 at *
  have hp := Nat.two_pow_pos F.fr
  have hm : 1 < F.most := by cases F <;> decide
  generalize F.most = K at *
  generalize 2 ^ F.fr = P at *
  have hd := Nat.div_add_mod s P
  have hml := Nat.mod_lt s hp
  have h3 : s / P ≤ K := by
    apply Nat.div_le_of_le_mul; rw [Nat.mul_comm]; exact h
  have h4 : s / P = K → s % P = 0 := by
    intro hk; rw [hk, Nat.mul_comm] at hd; omega
  have h5 : s / P = 0 → s = s % P := by intro hk; rw [hk, Nat.mul_zero] at hd; omega
  have h6 : s / P = K ↔ s = K * P := by
    constructor
    · intro hk; have := h4 hk; rw [hk, this, Nat.mul_comm] at hd; omega
    · intro hk; rw [hk, Nat.mul_div_cancel _ hp]
  have h7 : K * P ≠ 0 := by have := Nat.mul_pos (by omega : 0 < K) hp; omega
  have h8 : s = 0 → s / P = 0 := by rintro rfl; exact Nat.zero_div _
  generalize s / P = x at *
  generalize s % P = y at *
  generalize K * P = KP at *
  clear hd
  refine ⟨?_, ?_, ?_⟩ <;> (repeat' split) <;> omega
structure Betw (F : Fm) (md : Int) (d : Dy) : Prop where
  ws : ∀ m : Int, 1 ≤ m → m ≤ 5 → ∃ s : Nat, s ≤ F.i0 ∧ (rndW F m d).1 = s + F.sgn d.n
  under : (F.cls (rndW F 5 d).1 = 4 ∧ (rndW F 5 d).1 = F.inf true) ∨ (F.fin (rndW F 5 d).1 ∧ cmpD (F.val (rndW F 5 d).1) d ≤ 0)
  over : (F.cls (rndW F 4 d).1 = 4 ∧ (rndW F 4 d).1 = F.inf false) ∨ (F.fin (rndW F 4 d).1 ∧ 0 ≤ cmpD (F.val (rndW F 4 d).1) d)
  same : (rndW F 5 d).1 = (rndW F 4 d).1 → (rndW F 5 d).2 = 0 ∧ (rndW F 4 d).2 = 0 ∧ (rndW F md d).2 = 0 ∧ (rndW F md d).1 = (rndW F 5 d).1 ∧ (rndW F 3 d).1 = (rndW F 5 d).1
  step : (rndW F 5 d).1 ≠ (rndW F 4 d).1 → (if (rndW F 5 d).1 % F.sg = 0 then (1, true) else F.up (rndW F 5 d).1) = ((rndW F 4 d).1, true) ∧ ¬ ((rndW F 4 d).1 = F.sg ∧ (rndW F 4 d).1 = 0)
  flag : ∀ m : Int, 1 ≤ m → m ≤ 5 → (rndW F 5 d).1 ≠ (rndW F 4 d).1 → (rndW F m d).2 = 16 ∨ (rndW F m d).2 = 20 ∨ (rndW F m d).2 = 24
  one : (rndW F 5 d).1 ≠ (rndW F 4 d).1 → ((rndW F md d).1 = (rndW F 5 d).1 ∨ (rndW F md d).1 = (rndW F 4 d).1) ∧ ((rndW F 3 d).1 = (rndW F 5 d).1 ↔ d.n = false) ∧ ((rndW F 3 d).1 = (rndW F 4 d).1 ↔ d.n = true)
theorem up_pos {F : Fm} {x : Nat} (h : x < F.i0) : (if x % F.sg = 0 then (1, true) else F.up x) = (x + 1, true) := by
  have hi := fm_i0 F
  obtain ⟨c1, c2, c3⟩ := cls_size (F := F) false (Nat.le_of_lt h)
  obtain ⟨e1, e2⟩ := sgn_mod (F := F) false (by omega : x < F.sg)
  simp only [Fm.sgn, Bool.false_eq_true, if_false, Nat.add_zero] at c1 c2 c3 e1 e2
  rw [e1]
  by_cases h0 : x = 0
  · rw [if_pos h0, h0]
  · rw [if_neg h0]
    unfold Fm.up
    rw [if_neg (fun q => by have := c2.1 q.1; omega), if_neg (fun q => h0 (c1.1 q)), e2]
    rfl
theorem up_neg {F : Fm} {x : Nat} (h : x < F.i0) : (if (x + 1 + F.sg) % F.sg = 0 then (1, true) else F.up (x + 1 + F.sg)) = (x + F.sg, true) := by
  have hi := fm_i0 F
  obtain ⟨c1, c2, c3⟩ := cls_size (F := F) (s := x + 1) true (by omega)
  obtain ⟨e1, e2⟩ := sgn_mod (F := F) (s := x + 1) true (by omega)
  simp only [Fm.sgn, if_true] at c1 c2 c3 e1 e2
  rw [e1, if_neg (by omega)]
  unfold Fm.up
  rw [if_neg (fun q => by rw [e2] at q; exact absurd q.2 (by decide)), if_neg (fun q => by have := c1.1 q; omega), e2, if_pos rfl]
  congr 1; omega
section
variable {F : Fm} {md : Int} {d : Dy} {L : Int} {A : Nat}
theorem betw_pos (hL : L ≤ F.low) (hle : LoE d L) (hd : iv d L = A) (hn : d.n = false) {x : Nat} (hx : x < F.i0)
    (hws : ∀ m : Int, 1 ≤ m → m ≤ 5 → ∃ s : Nat, s ≤ F.i0 ∧ (rndW F m d).1 = s + F.sgn d.n)
    (E5 : (rndW F 5 d).1 = x) (E4 : (rndW F 4 d).1 = x + 1) (E3 : (rndW F 3 d).1 = x) (E : (rndW F md d).1 = x ∨ (rndW F md d).1 = x + 1)
    (hf : ∀ m : Int, 1 ≤ m → m ≤ 5 → (rndW F m d).2 = 16 ∨ (rndW F m d).2 = 20 ∨ (rndW F m d).2 = 24)
    (h1 : magN F x * 2 ^ (F.low - L).toNat ≤ A) (h2 : x + 1 < F.i0 → A ≤ magN F (x + 1) * 2 ^ (F.low - L).toNat) : Betw F md d := by
  have hi := fm_i0 F
  have s0 : F.sgn false = 0 := rfl
  refine ⟨hws, ?_, ?_, fun h => ?_, fun _ => ?_, fun m a b _ => hf m a b, fun _ => ?_⟩
  · right
    have c := cmp_size (F := F) (s := x) false hx hL hle
    have fz := fin_size (F := F) (s := x) false hx
    rw [s0, Nat.add_zero] at c fz
    rw [E5]
    refine ⟨fz, ?_⟩
    rw [c, hd]
    have : ¬ 0 < sgI ((if false = true then -1 else 1) * ((magN F x * 2 ^ (F.low - L).toNat : Nat) : Int) - (A : Int)) := by
      rw [sgI_pos]; simp only [Bool.false_eq_true, if_false]; omega
    omega
  · rw [E4]
    by_cases h3 : x + 1 < F.i0
    · right
      have c := cmp_size (F := F) (s := x + 1) false h3 hL hle
      have fz := fin_size (F := F) (s := x + 1) false h3
      rw [s0, Nat.add_zero] at c fz
      refine ⟨fz, ?_⟩
      rw [c, hd]
      have := h2 h3
      have : ¬ sgI ((if false = true then -1 else 1) * ((magN F (x + 1) * 2 ^ (F.low - L).toNat : Nat) : Int) - (A : Int)) < 0 := by
        rw [sgI_neg]; simp only [Bool.false_eq_true, if_false]; omega
      omega
    · left
      have e : x + 1 = F.inf false := by rw [inf_eq, s0]; omega
      rw [e]; exact ⟨cls_inf F false, rfl⟩
  · rw [E5, E4] at h; omega
  · rw [E5, E4]; exact ⟨up_pos hx, by omega⟩
  · rw [E5, E4, E3, hn]
    refine ⟨E, ⟨fun _ => rfl, fun _ => rfl⟩, ⟨fun h => by omega, fun h => by cases h⟩⟩
theorem betw_neg (hL : L ≤ F.low) (hle : LoE d L) (hd : iv d L = -(A : Int)) (hn : d.n = true) {x : Nat} (hx : x < F.i0)
    (hws : ∀ m : Int, 1 ≤ m → m ≤ 5 → ∃ s : Nat, s ≤ F.i0 ∧ (rndW F m d).1 = s + F.sgn d.n)
    (E5 : (rndW F 5 d).1 = x + 1 + F.sg) (E4 : (rndW F 4 d).1 = x + F.sg) (E3 : (rndW F 3 d).1 = x + F.sg) (E : (rndW F md d).1 = x + F.sg ∨ (rndW F md d).1 = x + 1 + F.sg)
    (hf : ∀ m : Int, 1 ≤ m → m ≤ 5 → (rndW F m d).2 = 16 ∨ (rndW F m d).2 = 20 ∨ (rndW F m d).2 = 24)
    (h1 : magN F x * 2 ^ (F.low - L).toNat ≤ A) (h2 : x + 1 < F.i0 → A ≤ magN F (x + 1) * 2 ^ (F.low - L).toNat) : Betw F md d := by
  have hi := fm_i0 F
  have s0 : F.sgn true = F.sg := rfl
  refine ⟨hws, ?_, ?_, fun h => ?_, fun _ => ?_, fun m a b _ => hf m a b, fun _ => ?_⟩
  · rw [E5]
    by_cases h3 : x + 1 < F.i0
    · right
      have c := cmp_size (F := F) (s := x + 1) true h3 hL hle
      have fz := fin_size (F := F) (s := x + 1) true h3
      rw [s0] at c fz
      refine ⟨fz, ?_⟩
      rw [c, hd]
      have := h2 h3
      have : ¬ 0 < sgI ((if true = true then -1 else 1) * ((magN F (x + 1) * 2 ^ (F.low - L).toNat : Nat) : Int) - -(A : Int)) := by
        rw [sgI_pos]; simp only [if_true]; omega
      omega
    · left
      have e : x + 1 + F.sg = F.inf true := by rw [inf_eq, s0]; omega
      rw [e]; exact ⟨cls_inf F true, rfl⟩
  · right
    have c := cmp_size (F := F) (s := x) true hx hL hle
    have fz := fin_size (F := F) (s := x) true hx
    rw [s0] at c fz
    rw [E4]
    refine ⟨fz, ?_⟩
    rw [c, hd]
    have : ¬ sgI ((if true = true then -1 else 1) * ((magN F x * 2 ^ (F.low - L).toNat : Nat) : Int) - -(A : Int)) < 0 := by
      rw [sgI_neg]; simp only [if_true]; omega
    omega
  · rw [E5, E4] at h; omega
  · rw [E5, E4]; exact ⟨up_neg hx, by omega⟩
  · rw [E5, E4, E3, hn]
    refine ⟨E.symm, ⟨fun h => by omega, fun h => by cases h⟩, ⟨fun _ => rfl, fun _ => rfl⟩⟩
theorem betw_eq (hL : L ≤ F.low) (hle : LoE d L) (hd : iv d L = (if d.n then -1 else 1) * (A : Int)) {x : Nat} (hx : x < F.i0)
    (hws : ∀ m : Int, 1 ≤ m → m ≤ 5 → ∃ s : Nat, s ≤ F.i0 ∧ (rndW F m d).1 = s + F.sgn d.n)
    (E5 : rndW F 5 d = (x + F.sgn d.n, 0)) (E4 : rndW F 4 d = (x + F.sgn d.n, 0)) (E3 : rndW F 3 d = (x + F.sgn d.n, 0)) (E : rndW F md d = (x + F.sgn d.n, 0))
    (h1 : magN F x * 2 ^ (F.low - L).toNat = A) : Betw F md d := by
  have c := cmp_size (F := F) (s := x) d.n hx hL hle
  have fz := fin_size (F := F) (s := x) d.n hx
  rw [h1, hd, Int.sub_self] at c
  refine ⟨hws, ?_, ?_, fun h => ?_, fun h => ?_, fun m a b h => ?_, fun h => ?_⟩
  · rw [E5]; right; exact ⟨fz, by rw [c]; decide⟩
  · rw [E4]; right; exact ⟨fz, by rw [c]; decide⟩
  · rw [E5, E4, E3, E]; exact ⟨rfl, rfl, rfl, rfl, rfl⟩
  · rw [E5, E4] at h; exact absurd rfl h
  · rw [E5, E4] at h; exact absurd rfl h
  · rw [E5, E4] at h; exact absurd rfl h
end
theorem between (F : Fm) {md : Int} (m1 : 1 ≤ md) (m2 : md ≤ 5) {d : Dy} (h0 : d.m ≠ 0) : Betw F md d := by
  have hi := fm_i0 F
  obtain ⟨L, l1, l2⟩ : ∃ L : Int, L < F.low ∧ L < d.e := ⟨min F.low d.e - 1, by omega, by omega⟩
  obtain ⟨A, U, W, e0, u, ex, S, _⟩ := shp_of F h0 l1 l2
  obtain ⟨b5, f5, r5, g5, R5⟩ := S.all 5 (by decide) (by decide)
  obtain ⟨b4, f4, r4, g4, R4⟩ := S.all 4 (by decide) (by decide)
  obtain ⟨b3, f3, r3, g3, R3⟩ := S.all 3 (by decide) (by decide)
  obtain ⟨b, f, r, g, R⟩ := S.all md m1 m2
  have x5 := R5.b5 rfl
  have x4 := R4.b4 rfl
  have x3 := R3.b3 rfl
  have hw := S.worth
  have hw1 := S.worth1
  have hlo := R.lo
  have hhi := R.hi
  have hex := R.exi
  have hd : iv d L = (if d.n then -1 else 1) * (A : Int) := by rw [iv_num, S.hA]
  have hle : LoE d L := Or.inr (by omega)
  have hbig : F.i0 ≤ e0 → magN F (F.i0 - 1) * 2 ^ (F.low - L).toNat ≤ A := fun h => Nat.le_trans (Nat.mul_le_mul_right _ (magN_le F (by omega : F.i0 - 1 ≤ e0))) (by rw [hw]; exact hlo)
  have hovs : ∀ m n, ovs F m n = F.i0 - 1 ∨ ovs F m n = F.i0 := fun m n => by unfold ovs; split <;> omega
  have hws : ∀ m : Int, 1 ≤ m → m ≤ 5 → ∃ s : Nat, s ≤ F.i0 ∧ (rndW F m d).1 = s + F.sgn d.n := fun m a1 a2 => by
    obtain ⟨b, f, r, _, _⟩ := S.all m a1 a2
    refine ⟨_, ?_, by rw [r]⟩
    split
    · have := hovs m d.n; omega
    · omega
  have hf : (F.i0 ≤ e0 ∨ ex = false) → ∀ m : Int, 1 ≤ m → m ≤ 5 → (rndW F m d).2 = 16 ∨ (rndW F m d).2 = 20 ∨ (rndW F m d).2 = 24 := fun h m a1 a2 => by
    obtain ⟨b, f, r, g, _⟩ := S.all m a1 a2
    rw [r]; simp only
    by_cases q : F.i0 ≤ e0 + b.toNat
    · rw [if_pos q]; exact Or.inr (Or.inl rfl)
    · rw [if_neg q]
      have : ex = false := h.resolve_left (by omega)
      rw [this]; simp only [Bool.false_eq_true, if_false]; omega
  by_cases hb : F.i0 ≤ e0
  · have t : ∀ b : Bool, F.i0 ≤ e0 + b.toNat := fun b => by omega
    rw [if_pos (t b5)] at r5
    rw [if_pos (t b4)] at r4
    rw [if_pos (t b3)] at r3
    rw [if_pos (t b)] at r
    cases hn : d.n
    · rw [hn] at r5 r4 r3 r hd
      have o5 : ovs F 5 false = F.i0 - 1 := by simp [ovs]
      have o4 : ovs F 4 false = F.i0 := by simp [ovs]
      have o3 : ovs F 3 false = F.i0 - 1 := by simp [ovs]
      refine betw_pos (x := F.i0 - 1) (by omega) hle (by rw [hd]; simp) hn (by omega) hws (by rw [r5, o5]; rfl) (by rw [r4, o4]; simp only [Fm.sgn, Bool.false_eq_true, if_false]; omega) (by rw [r3, o3]; rfl) ?_ (hf (Or.inl hb)) (hbig hb) (fun h => by omega)
      rw [r]; simp only [Fm.sgn, Bool.false_eq_true, if_false]
      have := hovs md false; omega
    · rw [hn] at r5 r4 r3 r hd
      have o5 : ovs F 5 true = F.i0 := by simp [ovs]
      have o4 : ovs F 4 true = F.i0 - 1 := by simp [ovs]
      have o3 : ovs F 3 true = F.i0 - 1 := by simp [ovs]
      refine betw_neg (x := F.i0 - 1) (by omega) hle (by rw [hd]; simp) hn (by omega) hws (by rw [r5, o5]; simp only [Fm.sgn, if_true]; omega) (by rw [r4, o4]; rfl) (by rw [r3, o3]; rfl) ?_ (hf (Or.inl hb)) (hbig hb) (fun h => by omega)
      rw [r]; simp only [Fm.sgn, if_true]
      have := hovs md true; omega
  · cases hx : ex
    · subst hx
      have hw1 := hw1 rfl
      have hup : A ≤ magN F (e0 + 1) * 2 ^ (F.low - L).toNat := by rw [hw1]; omega
      have hdn : magN F e0 * 2 ^ (F.low - L).toNat ≤ A := by rw [hw]; exact hlo
      cases hn : d.n
      · rw [hn] at r5 r4 r3 r hd x5 x4
        subst x5 x4 x3
        have o4 : ovs F 4 false = F.i0 := by simp [ovs]
        refine betw_pos (x := e0) (by omega) hle (by rw [hd]; simp) hn (by omega) hws (by rw [r5]; simp [hb, Fm.sgn]) ?_ (by rw [r3]; simp [hb, Fm.sgn]) ?_ (hf (Or.inr rfl)) hdn (fun _ => hup)
        · rw [r4]; simp only [o4, Bool.not_false, Bool.and_self, Bool.toNat_true, Fm.sgn, Bool.false_eq_true, if_false]; split <;> omega
        · rw [r]
          cases b
          · left; simp [hb, Fm.sgn]
          · right
            have m3 : md ≠ 3 := fun h => by have := R.b3 h; cases this
            have m5 : md ≠ 5 := fun h => by have := R.b5 h; rw [hn] at this; cases this
            have o : ovs F md false = F.i0 := by simp [ovs, m3, m5]
            simp only [o, Bool.toNat_true, Fm.sgn, Bool.false_eq_true, if_false]; split <;> omega
      · rw [hn] at r5 r4 r3 r hd x5 x4
        subst x5 x4 x3
        have o5 : ovs F 5 true = F.i0 := by simp [ovs]
        refine betw_neg (x := e0) (by omega) hle (by rw [hd]; simp) hn (by omega) hws ?_ (by rw [r4]; simp [hb, Fm.sgn]) (by rw [r3]; simp [hb, Fm.sgn]) ?_ (hf (Or.inr rfl)) hdn (fun _ => hup)
        · rw [r5]; simp only [o5, Bool.not_false, Bool.and_self, Bool.toNat_true, Fm.sgn, if_true]; split <;> omega
        · rw [r]
          cases b
          · left; simp [hb, Fm.sgn]
          · right
            have m3 : md ≠ 3 := fun h => by have := R.b3 h; cases this
            have m4 : md ≠ 4 := fun h => by have := R.b4 h; rw [hn] at this; cases this
            have o : ovs F md true = F.i0 := by simp [ovs, m3, m4]
            simp only [o, Bool.toNat_true, Fm.sgn, if_true]; split <;> omega
    · subst hx
      have y5 := R5.xb rfl
      have y4 := R4.xb rfl
      have y := R.xb rfl
      subst y5 y4 y x3
      refine betw_eq (x := e0) (by omega) hle hd (by omega) hws (by rw [r5]; simp [hb]) (by rw [r4]; simp [hb]) (by rw [r3]; simp [hb]) (by rw [r]; simp [hb]) ?_
      rw [hw]; exact (hex.1 rfl).symm
end Go.Cv
namespace Go.Cv
variable {G : Nat → Option (List AV)} {T : Tbl} {g : Nat}
theorem word_lt {F : Fm} {s : Nat} (n : Bool) (h : s ≤ F.i0) : s + F.sgn n < 2 * F.sg := by
  have := fm_i0 F
  unfold Fm.sgn; split <;> omega
def rndS (F : Fm) (m : Int) (d : Dy) : Nat := if d.m = 0 then 0 else
  if F.wide < blen (rnd m d.n d.m d.e (F.eOf (d.e + blen d.m))).1 + F.eOf (d.e + blen d.m) then ovs F m d.n else F.enc (rnd m d.n d.m d.e (F.eOf (d.e + blen d.m))).1 (F.eOf (d.e + blen d.m))
theorem rndW_S (F : Fm) (m : Int) {d : Dy} (h0 : d.m ≠ 0) : (rndW F m d).1 = rndS F m d + F.sgn d.n := by
  unfold rndW rndS wordOf
  rw [if_neg h0, if_neg h0]
  simp only
  split
  · rw [ovr_eq]
  · rfl
theorem rndS_le (F : Fm) {m : Int} (m1 : 1 ≤ m) (m2 : m ≤ 5) {d : Dy} (h0 : d.m ≠ 0) : rndS F m d ≤ F.i0 := by
  obtain ⟨s, h1, h2⟩ := (between F (md := 1) (by decide) (by decide) h0).ws m m1 m2
  rw [rndW_S F m h0] at h2; omega
theorem neg_nm {d : Dy} (h0 : d.m ≠ 0) : negD d = ⟨!d.n, d.m, d.e⟩ := by unfold negD; rw [if_neg h0]
theorem round_val (F : Fm) (m : Int) {s : Nat} (n : Bool) (h : s < F.i0) (h0 : s ≠ 0) : rndW F m (F.val (s + F.sgn n)) = (s + F.sgn n, 0) ∧ (F.val (s + F.sgn n)).m ≠ 0 := by
  have hi := fm_i0 F
  have hF := fm_facts F
  obtain ⟨e1, e2⟩ := sgn_mod n (by omega : s < F.sg)
  have hp := Nat.two_pow_pos F.fr
  have hd := Nat.div_add_mod s (2 ^ F.fr)
  have hm := Nat.mod_lt s hp
  obtain ⟨k, u, hk0, hk1, hu, hku, hv, hs⟩ : ∃ (k : Nat) (u : Int), k ≠ 0 ∧ k < 2 ^ (F.fr + 1) ∧ F.low ≤ u ∧ (u = F.low ∨ 2 ^ F.fr ≤ k) ∧ F.val (s + F.sgn n) = mkD n k u ∧ F.enc k u = s := by
    unfold Fm.val Fm.ex Fm.fc
    rw [e1, e2]
    by_cases hx : s / 2 ^ F.fr = 0
    · rw [if_pos hx]
      rw [hx, Nat.mul_zero, Nat.zero_add] at hd
      refine ⟨s % 2 ^ F.fr, F.low, by omega, by rw [Nat.pow_succ]; omega, Int.le_refl _, Or.inl rfl, rfl, ?_⟩
      unfold Fm.enc; rw [Int.sub_self]; simpa using hd
    · rw [if_neg hx]
      have hx1 : 1 ≤ s / 2 ^ F.fr := Nat.pos_of_ne_zero hx
      refine ⟨2 ^ F.fr + s % 2 ^ F.fr, (s / 2 ^ F.fr : Nat) - 1 + F.low, by omega, by rw [Nat.pow_succ]; omega, by generalize s / 2 ^ F.fr = Q at *; omega, Or.inr (by omega), rfl, ?_⟩
      unfold Fm.enc
      rw [show ((s / 2 ^ F.fr : Nat) - 1 + F.low - F.low : Int).toNat = s / 2 ^ F.fr - 1 by generalize s / 2 ^ F.fr = Q at *; omega, Nat.sub_mul, Nat.one_mul, Nat.mul_comm]
      have : 2 ^ F.fr * 1 ≤ 2 ^ F.fr * (s / 2 ^ F.fr) := Nat.mul_le_mul_left _ hx1
      rw [Nat.mul_one] at this; omega
  rw [hv]
  have hne := mkD_m0 (n := n) hk0 u
  refine ⟨?_, hne⟩
  have hb := mkD_blen (n := n) hk0 u
  have hbk := blen_le.2 hk1
  have hE : F.eOf ((mkD n k u).e + blen (mkD n k u).m) = u := by
    unfold Fm.eOf
    rw [hb]
    rcases hku with h1 | h1
    · omega
    · have := lt_blen.2 h1; omega
  have hr : rnd m (mkD n k u).n (mkD n k u).m (mkD n k u).e u = (k, true) := by
    have hle : u ≤ (mkD n k u).e := by rw [mkD_pos hk0]; simp only; omega
    unfold rnd
    rw [if_pos hle, mkD_val hk0 (Int.le_refl u), Int.sub_self]; simp
  unfold rndW
  rw [if_neg hne]
  simp only
  rw [hE, hr]
  unfold wordOf
  have hbig := enc_big F (n := k) (u := u) (by omega) hu hku
  rw [hs] at hbig
  rw [if_neg (fun q => by have := hbig.1 q; omega), hs, mkD_n hk0]
  simp
theorem val_zero (F : Fm) (n : Bool) : F.val (0 + F.sgn n) = ⟨false, 0, 0⟩ := by
  have hi := fm_i0 F
  obtain ⟨e1, e2⟩ := sgn_mod (F := F) (s := 0) n (by omega)
  unfold Fm.val Fm.ex Fm.fc
  rw [e1]; simp [mkD_zero]
theorem word_parts {F : Fm} {w : Nat} (h : w < 2 * F.sg) : ∃ s n, w = s + F.sgn n ∧ s < F.sg ∧ (F.fin w → s < F.i0) ∧ (w = F.sg ↔ s = 0 ∧ n = true) := by
  have hi := fm_i0 F
  refine ⟨w % F.sg, F.ng w, ?_, Nat.mod_lt _ hi.2.2.1, fun hf => ?_, ?_⟩
  · unfold Fm.ng Fm.sgn
    by_cases h1 : F.sg ≤ w
    · rw [decide_eq_true h1, if_pos rfl, Nat.mod_eq_sub_mod h1, Nat.mod_eq_of_lt (by omega)]; omega
    · rw [decide_eq_false h1, if_neg (by decide), Nat.mod_eq_of_lt (by omega)]; rfl
  · unfold Fm.fin Fm.ex at hf
    unfold Fm.i0
    have := Nat.div_add_mod (w % F.sg) (2 ^ F.fr)
    have h2 := Nat.mod_lt (w % F.sg) (Nat.two_pow_pos F.fr)
    have h3 : (w % F.sg / 2 ^ F.fr + 1) * 2 ^ F.fr ≤ F.most * 2 ^ F.fr := Nat.mul_le_mul_right _ hf
    rw [Nat.add_mul, Nat.one_mul, Nat.mul_comm] at h3
    omega
  · unfold Fm.ng
    constructor
    · intro e; rw [e, Nat.mod_self]; exact ⟨rfl, decide_eq_true (Nat.le_refl _)⟩
    · rintro ⟨h1, h2⟩
      simp only [decide_eq_true_eq] at h2
      rw [Nat.mod_eq_sub_mod h2, Nat.mod_eq_of_lt (by omega)] at h1; omega
theorem enc_mono (F : Fm) (u : Int) {a b : Nat} (h : a ≤ b) : F.enc a u ≤ F.enc b u := by unfold Fm.enc; omega
theorem rndS_enc (F : Fm) {m : Int} {d : Dy} (h0 : d.m ≠ 0) :
    rndS F m d = if F.i0 ≤ F.enc (rnd m d.n d.m d.e (F.eOf (d.e + blen d.m))).1 (F.eOf (d.e + blen d.m)) then ovs F m d.n else F.enc (rnd m d.n d.m d.e (F.eOf (d.e + blen d.m))).1 (F.eOf (d.e + blen d.m)) := by
  obtain ⟨q1, q2, _, _⟩ := rnd_bd F (md := m) h0
  have hu : F.low ≤ F.eOf (d.e + blen d.m) := by unfold Fm.eOf; omega
  have hb := enc_big F q1 hu q2
  unfold rndS
  rw [if_neg h0]
  by_cases h : F.wide < blen (rnd m d.n d.m d.e (F.eOf (d.e + blen d.m))).1 + F.eOf (d.e + blen d.m)
  · rw [if_pos h, if_pos (hb.1 h)]
  · rw [if_neg h, if_neg (fun q => h (hb.2 q))]
theorem rndS_mono (F : Fm) (m : Int) {a b : Dy} (ha : a.m ≠ 0) (hb : b.m ≠ 0) (hn : a.n = b.n) {L : Int} (la : L < a.e) (lb : L < b.e) (ll : L < F.low)
    (h : b.m * 2 ^ (b.e - L).toNat ≤ a.m * 2 ^ (a.e - L).toNat) : rndS F m b ≤ rndS F m a := by
  have hi := fm_i0 F
  have ta := blen_mul ha (a.e - L).toNat
  have tb := blen_mul hb (b.e - L).toNat
  have ht := blen_mono h
  have hu : F.eOf (b.e + blen b.m) ≤ F.eOf (a.e + blen a.m) := by unfold Fm.eOf; omega
  have ha0 : F.low ≤ F.eOf (a.e + blen a.m) := by unfold Fm.eOf; omega
  have hb0 : F.low ≤ F.eOf (b.e + blen b.m) := by unfold Fm.eOf; omega
  obtain ⟨p1, p2, _, _⟩ := rnd_bd F (md := m) ha
  obtain ⟨q1, q2, _, _⟩ := rnd_bd F (md := m) hb
  have he : F.enc (rnd m b.n b.m b.e (F.eOf (b.e + blen b.m))).1 (F.eOf (b.e + blen b.m)) ≤ F.enc (rnd m a.n a.m a.e (F.eOf (a.e + blen a.m))).1 (F.eOf (a.e + blen a.m)) := by
    by_cases hq : F.eOf (b.e + blen b.m) = F.eOf (a.e + blen a.m)
    · rw [hq]
      apply enc_mono
      rw [rnd_L m a.n a.m (L := L) (by omega) (by omega), rnd_L m b.n b.m (L := L) (by omega) (by omega), hn]
      exact rdN_mono m b.n h (by omega)
    · rcases p2 with p2 | p2
      · exfalso; omega
      · unfold Fm.enc
        rw [Nat.pow_succ] at q1
        obtain ⟨j, hj⟩ : ∃ j, (F.eOf (b.e + blen b.m) - F.low).toNat = j := ⟨_, rfl⟩
        obtain ⟨k, hk⟩ : ∃ k, (F.eOf (a.e + blen a.m) - F.low).toNat = k := ⟨_, rfl⟩
        rw [hj, hk]
        have h5 : (j + 1) * 2 ^ F.fr ≤ k * 2 ^ F.fr := Nat.mul_le_mul_right _ (by omega)
        rw [Nat.add_mul, Nat.one_mul] at h5
        omega
  rw [rndS_enc F ha, rndS_enc F hb, hn]
  rw [hn] at he
  have ho : ovs F m b.n = F.i0 - 1 ∨ ovs F m b.n = F.i0 := by unfold ovs; split <;> omega
  split <;> split <;> omega
def keyW (s : Nat) (n : Bool) : Int := if n then -(s : Int) else s
theorem above_key (F : Fm) {s t : Nat} {n k : Bool} (hs : s ≤ F.i0) (ht : t ≤ F.i0) (h : keyW t k ≤ keyW s n) : aboveW F (s + F.sgn n) (t + F.sgn k) = true := by
  have hi := fm_i0 F
  unfold aboveW
  have e1 : ∀ (s : Nat) (n k : Bool), s ≤ F.i0 → (s + F.sgn n = F.i0 + F.sgn k ↔ s = F.i0 ∧ n = k) := fun s n k hs => by
    unfold Fm.sgn
    cases n <;> cases k <;> simp <;> omega
  have d1 : (s + F.sgn n = F.inf false ∨ t + F.sgn k = F.inf true) ↔ ((s = F.i0 ∧ n = false) ∨ (t = F.i0 ∧ k = true)) := by rw [inf_eq, inf_eq, e1 s n false hs, e1 t k true ht]
  have d2 : (s + F.sgn n = F.inf true ∨ t + F.sgn k = F.inf false) ↔ ((s = F.i0 ∧ n = true) ∨ (t = F.i0 ∧ k = false)) := by rw [inf_eq, inf_eq, e1 s n true hs, e1 t k false ht]
  by_cases c1 : (s = F.i0 ∧ n = false) ∨ (t = F.i0 ∧ k = true)
  · rw [if_pos (d1.2 c1)]
  · rw [if_neg (fun q => c1 (d1.1 q))]
    by_cases c2 : (s = F.i0 ∧ n = true) ∨ (t = F.i0 ∧ k = false)
    · exfalso
      unfold keyW at h
      cases n <;> cases k <;> simp at h c1 c2 <;> omega
    · rw [if_neg (fun q => c2 (d2.1 q))]
      have s1 : s < F.i0 := by
        rcases Nat.lt_or_ge s F.i0 with q | q
        · exact q
        · exfalso; cases n
          · exact c1 (Or.inl ⟨by omega, rfl⟩)
          · exact c2 (Or.inl ⟨by omega, rfl⟩)
      have t1 : t < F.i0 := by
        rcases Nat.lt_or_ge t F.i0 with q | q
        · exact q
        · exfalso; cases k
          · exact c2 (Or.inr ⟨by omega, rfl⟩)
          · exact c1 (Or.inr ⟨by omega, rfl⟩)
      obtain ⟨v1, v2, _⟩ := iv_val n s1
      obtain ⟨w1, w2, _⟩ := iv_val k t1
      rw [cmp_iv v2 w2, v1, w1]
      apply decide_eq_true
      have hnot : ¬ ((if n = true then -1 else 1) * (magN F s : Int) - (if k = true then -1 else 1) * (magN F t : Int)) < 0 := by
        unfold keyW at h
        have z := magN_zero F
        cases n <;> cases k <;> simp only [Bool.false_eq_true, if_false, if_true] at h ⊢
        · have := magN_le F (by omega : t ≤ s); omega
        · omega
        · have h1 : s = 0 := by omega
          have h2 : t = 0 := by omega
          subst h1 h2; omega
        · have := magN_le F (by omega : s ≤ t); omega
      have := sgI_neg (x := (if n = true then -1 else 1) * (magN F s : Int) - (if k = true then -1 else 1) * (magN F t : Int))
      omega
theorem rndW_key (F : Fm) {m : Int} (m1 : 1 ≤ m) (m2 : m ≤ 5) (d : Dy) : ∃ s n, (rndW F m d).1 = s + F.sgn n ∧ s ≤ F.i0 ∧ s = rndS F m d ∧ (d.m = 0 → s = 0 ∧ n = false) ∧ (d.m ≠ 0 → n = d.n) := by
  by_cases h0 : d.m = 0
  · refine ⟨0, false, ?_, Nat.zero_le _, ?_, fun _ => ⟨rfl, rfl⟩, fun h => absurd h0 h⟩
    · unfold rndW; rw [if_pos h0]; rfl
    · unfold rndS; rw [if_pos h0]
  · exact ⟨rndS F m d, d.n, rndW_S F m h0, rndS_le F m1 m2 h0, rfl, fun h => absurd h h0, fun _ => rfl⟩
theorem low_of (F : Fm) (a b : Dy) : ∃ L : Int, L < F.low ∧ L < a.e ∧ L < b.e := ⟨min F.low (min a.e b.e) - 1, by omega, by omega, by omega⟩
theorem LoE_lt {d : Dy} {L : Int} (h : L < d.e) : LoE d L := Or.inr (by omega)
theorem order (F : Fm) {m : Int} (m1 : 1 ≤ m) (m2 : m ≤ 5) {a b : Dy} (h : 0 ≤ cmpD a b) : aboveW F (rndW F m a).1 (rndW F m b).1 = true := by
  obtain ⟨L, l1, l2, l3⟩ := low_of F a b
  rw [cmp_iv (LoE_lt l2) (LoE_lt l3)] at h
  have hle : iv b L ≤ iv a L := by
    have := sgI_neg (x := iv a L - iv b L); omega
  obtain ⟨s, n, e1, hs, es, sz, sn⟩ := rndW_key F m1 m2 a
  obtain ⟨t, k, e2, ht, et, tz, tn⟩ := rndW_key F m1 m2 b
  rw [e1, e2]
  refine above_key F hs ht ?_
  have pa : a.m ≠ 0 → 0 < a.m * 2 ^ (a.e - L).toNat := fun h => Nat.mul_pos (Nat.pos_of_ne_zero h) (Nat.two_pow_pos _)
  have pb : b.m ≠ 0 → 0 < b.m * 2 ^ (b.e - L).toNat := fun h => Nat.mul_pos (Nat.pos_of_ne_zero h) (Nat.two_pow_pos _)
  rw [iv_num, iv_num] at hle
  unfold keyW
  by_cases ha : a.m = 0
  · obtain ⟨rfl, rfl⟩ := sz ha
    rw [ha, Nat.zero_mul] at hle
    by_cases hb : b.m = 0
    · obtain ⟨rfl, rfl⟩ := tz hb
      decide
    · have := pb hb
      have hk := tn hb
      cases hbn : b.n
      · rw [hbn] at hle; simp only [Bool.false_eq_true, if_false] at hle; split at hle <;> omega
      · rw [hk, hbn]; simp only [Bool.false_eq_true, if_false, if_true]; omega
  · have hna := sn ha
    have := pa ha
    by_cases hb : b.m = 0
    · obtain ⟨rfl, rfl⟩ := tz hb
      rw [hb, Nat.zero_mul] at hle
      cases han : a.n
      · rw [hna, han]; simp only [Bool.false_eq_true, if_false]; omega
      · rw [han] at hle; simp only [if_true] at hle; split at hle <;> omega
    · have hnb := tn hb
      have := pb hb
      cases han : a.n <;> cases hbn : b.n
      · rw [han, hbn] at hle
        have := rndS_mono F m ha hb (by rw [han, hbn]) l2 l3 l1 (by simp only [Bool.false_eq_true, if_false] at hle; omega)
        rw [hna, hnb, han, hbn]; simp only [Bool.false_eq_true, if_false]; omega
      · rw [hna, hnb, han, hbn]; simp only [Bool.false_eq_true, if_false, if_true]; omega
      · rw [han, hbn] at hle; simp only [Bool.false_eq_true, if_false, if_true] at hle; omega
      · rw [han, hbn] at hle
        have := rndS_mono F m hb ha (by rw [han, hbn]) l3 l2 l1 (by simp only [if_true] at hle; omega)
        rw [hna, hnb, han, hbn]; simp only [if_true]; omega
def distN (a b : Dy) (L : Int) : Int := if iv a L - iv b L < 0 then -(iv a L - iv b L) else iv a L - iv b L
theorem iv_abs_dist {a b : Dy} {L : Int} (la : LoE a L) (lb : LoE b L) : iv (absD (subD a b)) L = distN a b L ∧ LoE (absD (subD a b)) L := by
  obtain ⟨h1, h2⟩ := iv_sub la lb
  refine ⟨?_, h2⟩
  rw [iv_abs]
  unfold distN
  rw [← h1]
  unfold iv
  generalize (subD a b).m * 2 ^ ((subD a b).e - L).toNat = X
  cases (subD a b).n <;> simp <;> omega
theorem dist_nn (a b : Dy) (L : Int) : 0 ≤ distN a b L := by unfold distN; split <;> omega
theorem nearest (F : Fm) {m : Int} (hm : m = 1 ∨ m = 2) {d : Dy} {o : Nat} (ho : o < 2 * F.sg) (hf : F.fin o) (hv : (rndW F m d).2 ≠ 20) :
    F.fin (rndW F m d).1 ∧ (rndW F m d).1 < 2 * F.sg ∧ cmpD (absD (subD (F.val (rndW F m d).1) d)) (absD (subD (F.val o) d)) ≤ 0 := by
  have hi := fm_i0 F
  obtain ⟨so, no, ew, o1, o2, _⟩ := word_parts ho
  have o2 := o2 hf
  obtain ⟨L, l1, l2⟩ : ∃ L : Int, L < F.low ∧ L < d.e := ⟨min F.low d.e - 1, by omega, by omega⟩
  have ld : LoE d L := LoE_lt l2
  obtain ⟨v1, v2⟩ := iv_val_L (F := F) (s := so) no o2 (L := L) (by omega)
  rw [← ew] at v1 v2
  obtain ⟨x1, x2⟩ := iv_abs_dist v2 ld
  have fin : ∀ {s : Nat} {n : Bool}, (rndW F m d).1 = s + F.sgn n → s < F.i0 → (distN (F.val (s + F.sgn n)) d L ≤ distN (F.val o) d L) →
      F.fin (rndW F m d).1 ∧ (rndW F m d).1 < 2 * F.sg ∧ cmpD (absD (subD (F.val (rndW F m d).1) d)) (absD (subD (F.val o) d)) ≤ 0 := fun {s n} e h1 h2 => by
    rw [e]
    obtain ⟨w1, w2⟩ := iv_val_L (F := F) n h1 (L := L) (by omega)
    obtain ⟨y1, y2⟩ := iv_abs_dist w2 ld
    refine ⟨fin_size n h1, word_lt n (by omega), ?_⟩
    rw [cmp_iv y2 x2, y1, x1]
    have := sgI_pos (x := distN (F.val (s + F.sgn n)) d L - distN (F.val o) d L)
    omega
  by_cases h0 : d.m = 0
  · have e : (rndW F m d).1 = 0 + F.sgn false := by unfold rndW; rw [if_pos h0]; rfl
    refine fin e (by omega) ?_
    have : distN (F.val (0 + F.sgn false)) d L = 0 := by
      unfold distN
      rw [val_zero, iv_zero rfl, iv_zero h0]; rfl
    rw [this]; exact dist_nn ..
  · obtain ⟨A, U, W, e0, u, ex, S, _⟩ := shp_of F h0 l1 l2
    obtain ⟨b, fl, r, g, R⟩ := S.all m (by omega) (by omega)
    have hov : ¬ F.i0 ≤ e0 + b.toNat := by
      intro q; rw [r, if_pos q, if_pos q] at hv; exact hv rfl
    rw [if_neg hov, if_neg hov] at r
    have e : (rndW F m d).1 = e0 + b.toNat + F.sgn d.n := by rw [r]
    refine fin e (by omega) ?_
    obtain ⟨w1, _⟩ := iv_val_L (F := F) (s := e0 + b.toNat) d.n (by omega) (L := L) (by omega)
    have hA : iv d L = (if d.n then -1 else 1) * (A : Int) := by rw [iv_num, S.hA]
    unfold distN
    rw [w1, hA, v1]
    have hw := S.worth
    have hw1 := S.worth1
    have hlo := R.lo
    have hhi := R.hi
    have hex := R.exi
    have hxb := R.xb
    obtain ⟨n1, n2⟩ := R.near hm
    have m1 : so ≤ e0 → magN F so * 2 ^ (F.low - L).toNat ≤ W * U := fun h => by rw [← hw]; exact Nat.mul_le_mul_right _ (magN_le F h)
    have m2 : ex = false → e0 + 1 ≤ so → (W + 1) * U ≤ magN F so * 2 ^ (F.low - L).toNat := fun hx h => by rw [← hw1 hx]; exact Nat.mul_le_mul_right _ (magN_le F h)
    generalize magN F so * 2 ^ (F.low - L).toNat = O at *
    have q1 : (W + 1) * U = W * U + U := by rw [Nat.add_mul, Nat.one_mul]
    have q2 : (2 * W + 1) * U = 2 * (W * U) + U := by rw [Nat.add_mul, Nat.one_mul, Nat.mul_assoc]
    rw [q1] at hhi m2
    rw [q2] at n1 n2
    clear v1 v2 x1 x2 fin r e w1 hA ld
    cases b
    · simp only [Bool.toNat_false, Nat.add_zero]
      rw [hw]
      have n2 := n2 rfl
      generalize W * U = P at *
      cases ex
      · have m2 := m2 rfl
        have hO : O ≤ P ∨ P + U ≤ O := by
          rcases Nat.lt_or_ge e0 so with h | h
          · exact Or.inr (m2 h)
          · exact Or.inl (m1 h)
        clear m1 m2 hw hw1 hex hxb hov n1
        cases d.n <;> cases no <;> simp only [Bool.false_eq_true, if_false, if_true] <;> repeat' split
        all_goals omega
      · have hE := hex.1 rfl
        clear m1 m2 hw hw1 hex hxb hov n1
        cases d.n <;> cases no <;> simp only [Bool.false_eq_true, if_false, if_true] <;> repeat' split
        all_goals omega
    · have hx : ex = false := by cases ex; rfl; exact absurd (hxb rfl) (by decide)
      subst hx
      simp only [Bool.toNat_true]
      rw [hw1 rfl, q1]
      have n1 := n1 rfl
      generalize W * U = P at *
      have m2 := m2 rfl
      have hO : O ≤ P ∨ P + U ≤ O := by
        rcases Nat.lt_or_ge e0 so with h | h
        · exact Or.inr (m2 h)
        · exact Or.inl (m1 h)
      clear m1 m2 hw hw1 hex hxb hov n2
      cases d.n <;> cases no <;> simp only [Bool.false_eq_true, if_false, if_true] <;> repeat' split
      all_goals omega
theorem drop_set {l : List Nat} {i d : Nat} (h : i < l.length) : (l.set i d).drop i = d :: l.drop (i + 1) := by
  rw [drop_cons (by rw [List.length_set]; exact h), dg_set h, List.drop_set_of_lt (Nat.lt_succ_self i)]
theorem small_step {L l : List Nat} {d r j : Nat} (hj : j < L.length) (hl : l.length = L.length) (h : val (L.drop (j + 1)) = val (l.drop (j + 1)) * d + r) :
    val (L.drop j) = val ((l.set j ((r * 4294967296 + dg L j) / d)).drop j) * d + (r * 4294967296 + dg L j) % d := by
  rw [drop_cons hj, drop_set (by omega), val_cons, val_cons, h]
  have := Nat.div_add_mod (r * 4294967296 + dg L j) d
  generalize (r * 4294967296 + dg L j) / d = q at *
  generalize (r * 4294967296 + dg L j) % d = m at *
  rw [Nat.mul_add, Nat.add_mul, Nat.mul_assoc, Nat.mul_comm q d]
  generalize val (l.drop (j + 1)) * d = x at *
  omega
theorem small_lt {d r x : Nat} (hr : r < d) (hx : x < 4294967296) : (r * 4294967296 + x) / d < 4294967296 := by
  rw [Nat.div_lt_iff_lt_mul (by omega)]
  calc r * 4294967296 + x < (r + 1) * 4294967296 := by omega
    _ ≤ d * 4294967296 := Nat.mul_le_mul_right _ hr
    _ = 4294967296 * d := Nat.mul_comm ..
theorem shl32_or {r x : Nat} (hr : r < 4294967296) (hx : x < 4294967296) : orI .u64 ((r : Int) * 4294967296 % 18446744073709551616) (x : Int) = ((r * 4294967296 + x : Nat) : Int) := by
  have e : (r : Int) * 4294967296 % 18446744073709551616 = ((r * 4294967296 : Nat) : Int) := by omega
  rw [e, or64 (by omega) (by omega), Nat.or_comm, show (4294967296 : Nat) = 2 ^ 32 from rfl, or_add hx, Nat.add_comm]
theorem divmod_of {V A d r : Nat} (hr : r < d) (h : V = A * d + r) : A = V / d ∧ r = V % d := by
  subst h
  constructor
  · rw [Nat.mul_comm, Nat.mul_add_div (by omega), Nat.div_eq_of_lt hr]; rfl
  · rw [Nat.mul_comm, Nat.mul_add_mod, Nat.mod_eq_of_lt hr]
theorem bits_Div32 (J : Al G T g) {r x d : Nat} (hr : r < d) (hx : x < 4294967296) (hd : d < 4294967296) :
    run G T 118 [.int .u32 (r : Int), .int .u32 (x : Int), .int .u32 (d : Int)] = some (.tup [.int .u32 (((r * 4294967296 + x) / d : Nat) : Int), .int .u32 (((r * 4294967296 + x) % d : Nat) : Int)]) := by
  rw [run_k G T J.A.bits_Div32]
  have w0 : (r : Int) % 18446744073709551616 = r := by omega
  have w1 : (x : Int) % 18446744073709551616 = x := by omega
  have w2 := shl32_or (r := r) (x := x) (by omega) hx
  have w3 : (d : Int) % 18446744073709551616 = d := by omega
  have hq := small_lt hr hx
  have hm := Nat.mod_lt (r * 4294967296 + x) (y := d) (by omega)
  have h2 : ¬ (d : Int) = 0 := by omega
  have h3 : ¬ (d : Int) ≤ r := by omega
  have w4 : ((r * 4294967296 + x : Nat) : Int).tdiv (d : Int) = (((r * 4294967296 + x) / d : Nat) : Int) := rfl
  have w5 : ((r * 4294967296 + x : Nat) : Int).tmod (d : Int) = (((r * 4294967296 + x) % d : Nat) : Int) := rfl
  generalize (r * 4294967296 + x) / d = Q at *
  generalize (r * 4294967296 + x) % d = R at *
  have w6 : (Q : Int) % 18446744073709551616 = Q := by omega
  have w7 : (Q : Int) % 4294967296 = Q := by omega
  have w9 : (R : Int) % 4294967296 = R := by omega
  repeat (first | (simp (maxSteps := 9^7) only [seval, evB, c_bits_Div32, w0, w1, w2, w3, w4, w5, w6, w7, w9, h2, h3]) | (simp (disch := omega) only [dsB]))
theorem small_loop (J : Al G T g) {L : List Nat} {z : Bool} {d b : Nat} (hL : Dg L) (h0 : 0 < d) (hd : d < 4294967296) (hb : L.length < 17179869184) : ∀ (j r : Nat) (h : Heap) (l : List Nat),
    j ≤ L.length → Holds h b l → Dg l → l.length = L.length → r < d → val (L.drop j) = val (l.drop j) * d + r →
    Post (evL G T c_nat_small_l1 [(0, D z L), (1, .int .u32 (d : Int)), (6, .own b 0 L.length 1), (7, .int .u32 (r : Int)), (8, .int .i64 ((j : Int) - 1))] h) fun x =>
      ∃ e h' l' r', x = (.exit 0, (0, D z L) :: (1, .int .u32 (d : Int)) :: (6, .own b 0 L.length 1) :: (7, .int .u32 ((r' : Nat) : Int)) :: e, h') ∧ Holds h' b l' ∧ Dg l' ∧ l'.length = L.length ∧ r' < d ∧ val L = val l' * d + r'
  | 0, r, h, l, hj, H, hd1, hl, hr, he => by
    rw [s_loopc G T (c := c_nat_small_l1) rfl]
    have h1 : ¬ (0 : Int) ≤ ((0 : Nat) : Int) - 1 := by omega
    repeat (first | (simp (maxSteps := 9^7) only [seval, evB, c_nat_small_b1, h1]) | (simp (disch := omega) only [dsB]))
    exact Post.some ⟨_, _, _, _, rfl, H, hd1, hl, hr, by simpa using he⟩
  | j + 1, r, h, l, hj, H, hd1, hl, hr, he => by
    rw [s_loopc G T (c := c_nat_small_l1) rfl]
    have e1 : ((j + 1 : Nat) : Int) - 1 = (j : Int) := by omega
    have h1 : (0 : Int) ≤ (j : Int) := by omega
    have hx := hL.dg j
    have hc := bits_Div32 (G := G) J hr hx hd
    have hs := small_step (L := L) (l := l) (d := d) (r := r) (j := j) (by omega) hl he
    have hq := small_lt hr hx
    have hm := Nat.mod_lt (r * 4294967296 + dg L j) h0
    rw [e1]
    repeat (first | (simp (maxSteps := 9^7) only [seval, evB, c_nat_small_b1, h1, hc ]) | (simp (disch := omega) only [dsB,  store_n H]))
    exact small_loop J hL h0 hd hb j _ _ _ (by omega) (H.put _) (Dg_set hd1 hq) (by rw [List.length_set]; exact hl) hm hs
theorem nat_small (J : Al G T g) {z : Bool} {a d : Nat} (h0 : 0 < d) (hd : d < 4294967296) (hb : (dl a).length < 17179869184) :
    ∃ z1, run G T 108 [D z (dl a), .int .u32 (d : Int)] = some (.tup [D z1 (dl (a / d)), .int .u32 ((a % d : Nat) : Int)]) := by
  have hL := Dg_dl a
  obtain ⟨x, hr, e, h', l', r', rfl, H, hd1, hl, hr1, hv⟩ := small_loop (G := G) J (z := z) (d := d) (b := Heap.nil.b.length) hL h0 hd (by omega) (dl a).length 0 (new .nil (List.replicate (dl a).length 0)) _ (Nat.le_refl _) (Holds_new FreH.nil _) (Dg_rep _) (by rw [List.length_replicate]) h0 (by rw [List.drop_length, List.drop_eq_nil_of_le (by rw [List.length_replicate]; exact Nat.le_refl _)]; simp [val])
  rw [cast0] at hr
  rw [val_dl] at hv
  obtain ⟨e1, e2⟩ := divmod_of hr1 hv
  have hsn := snap_own H (n := (dl a).length) (by omega)
  rw [← hl, List.take_length] at hsn
  obtain ⟨z1, hz1⟩ := nat_trim J (z := false) hd1 (by omega)
  rw [hl] at hsn
  refine ⟨z1, ?_⟩
  rw [run_k G T J.A.nat_small, ← e1, ← e2]
  repeat (first | (simp (maxSteps := 9^7) only [seval, evB, c_nat_small, hr, hsn, hz1]) | (simp (disch := omega) only [dsB]))
theorem val_set {l : List Nat} {j : Nat} (d : Nat) (h : j < l.length) : val (l.set j d) + 4294967296 ^ j * dg l j = val l + 4294967296 ^ j * d := by
  induction l generalizing j with
  | nil => exact absurd h (Nat.not_lt_zero _)
  | cons a l ih =>
    cases j with
    | zero =>
      have e : dg (a :: l) 0 = a := by rw [dg_lt (by simp)]; rfl
      rw [List.set_cons_zero, val_cons, val_cons, e, Nat.pow_zero]; omega
    | succ j =>
      have h2 : j < l.length := by simpa using h
      have e : dg (a :: l) (j + 1) = dg l j := by rw [dg_lt h, dg_lt h2]; rfl
      have := ih h2
      rw [List.set_cons_succ, val_cons, val_cons, e, Nat.pow_succ]
      have e2 : ∀ x, 4294967296 ^ j * 4294967296 * x = 4294967296 * (4294967296 ^ j * x) := fun x => by rw [Nat.mul_comm (4294967296 ^ j), Nat.mul_assoc]
      rw [e2, e2]
      omega
theorem dg_set_ne {l : List Nat} {i j d : Nat} (h : i ≠ j) : dg (l.set i d) j = dg l j := by
  by_cases hj : j < l.length
  · rw [dg_lt (by rw [List.length_set]; exact hj), dg_lt hj, List.getElem_set_ne h]
  · rw [dg_ge (by rw [List.length_set]; omega), dg_ge (by omega)]
theorem mac_lt {x y o c : Nat} (hx : x < 4294967296) (hy : y < 4294967296) (ho : o < 4294967296) (hc : c < 4294967296) : x * y + o + c < 18446744073709551616 := by
  have : x * y ≤ 4294967295 * 4294967295 := Nat.mul_le_mul (by omega) (by omega)
  omega
theorem mul_row {A l0 l : List Nat} {i k x c V : Nat} (hk : i + k < l.length) (he : val l + 4294967296 ^ (i + k) * c = V + 4294967296 ^ i * (x * val (A.take k))) :
    val (l.set (i + k) ((x * dg A k + dg l (i + k) + c) % 4294967296)) + 4294967296 ^ (i + (k + 1)) * ((x * dg A k + dg l (i + k) + c) / 4294967296) = V + 4294967296 ^ i * (x * val (A.take (k + 1))) := by
  have h1 := val_set ((x * dg A k + dg l (i + k) + c) % 4294967296) hk
  have h2 := Nat.mod_add_div (x * dg A k + dg l (i + k) + c) 4294967296
  rw [val_take_succ', Nat.mul_add, Nat.mul_add, ← Nat.add_assoc V, ← he, ← Nat.add_assoc, Nat.pow_succ]
  generalize (x * dg A k + dg l (i + k) + c) % 4294967296 = m at *
  generalize (x * dg A k + dg l (i + k) + c) / 4294967296 = q at *
  have e1 : 4294967296 ^ i * (x * (4294967296 ^ k * dg A k)) = 4294967296 ^ (i + k) * (x * dg A k) := by
    rw [Nat.pow_add, Nat.mul_left_comm x, Nat.mul_assoc]
  rw [e1]
  generalize 4294967296 ^ (i + k) = p at *
  rw [Nat.mul_assoc]
  have h3 : p * m + p * (4294967296 * q) = p * (x * dg A k) + p * dg l (i + k) + p * c := by rw [← Nat.mul_add, h2, Nat.mul_add, Nat.mul_add]
  omega
theorem mul_inner {B : List Nat} {zb : Bool} {i x b n : Nat} {va : AV} {na : Int} (hB : Dg B) (hx : x < 4294967296) (hs : n < 549755813888) (hn : i + B.length < n) (V : Nat) : ∀ (m k : Nat) (h : Heap) (l : List Nat) (c : Nat),
    m + k = B.length → Holds h b l → Dg l → l.length = n → c < 4294967296 → (∀ j, i + B.length ≤ j → dg l j = 0) → val l + 4294967296 ^ (i + k) * c = V + 4294967296 ^ i * (x * val (B.take k)) →
    Post (evL G T c_nat_mul_l1 [(1, D zb B), (5, .own b 0 n 1), (6, .int .i64 (i : Int)), (7, .int .u32 (x : Int)), (8, .int .u64 (c : Int)), (18, va), (19, .int .i64 na), (20, .int .i64 (i : Int)), (25, D zb B), (26, .int .i64 ((B.length : Nat) : Int)), (27, .int .i64 (k : Int))] h) fun r =>
      ∃ e h' l' c', r = (.exit 2, (1, D zb B) :: (5, .own b 0 n 1) :: (6, .int .i64 (i : Int)) :: (7, .int .u32 (x : Int)) :: (8, .int .u64 ((c' : Nat) : Int)) :: (18, va) :: (19, .int .i64 na) :: (20, .int .i64 (i : Int)) :: (25, D zb B) :: (26, .int .i64 ((B.length : Nat) : Int)) :: (27, .int .i64 ((B.length : Nat) : Int)) :: e, h') ∧
        Holds h' b l' ∧ Dg l' ∧ l'.length = n ∧ c' < 4294967296 ∧ (∀ j, i + B.length ≤ j → dg l' j = 0) ∧ val l' + 4294967296 ^ (i + B.length) * c' = V + 4294967296 ^ i * (x * val B)
  | 0, k, h, l, c, hm, H, hd, hl, hc, hz, he => by
    rw [s_loopc G T (c := c_nat_mul_l1) rfl]
    have h1 : ¬ (k : Int) < B.length := by omega
    repeat (first | (simp (maxSteps := 9^7) only [seval, evB, c_nat_mul_b1, h1]) | (simp (disch := omega) only [dsB]))
    obtain rfl : k = B.length := by omega
    rw [List.take_length] at he
    exact Post.some ⟨_, _, _, _, rfl, H, hd, hl, hc, hz, he⟩
  | m + 1, k, h, l, c, hm, H, hd, hl, hc, hz, he => by
    rw [s_loopc G T (c := c_nat_mul_l1) rfl]
    have h1 : (k : Int) < B.length := by omega
    have e7 : (k : Int) + 1 = ((k + 1 : Nat) : Int) := by omega
    have e8 : (i : Int) + (k : Int) = ((i + k : Nat) : Int) := by omega
    have hy := hB.dg k
    have ho := hd.dg (i + k)
    have hik : i + k < l.length := by omega
    have w1 : (x : Int) % 18446744073709551616 = x := by omega
    have w2 : (dg B k : Int) % 18446744073709551616 = dg B k := by omega
    have w3 : (dg l (i + k) : Int) % 18446744073709551616 = dg l (i + k) := by omega
    have hM := mac_lt hx hy ho hc
    have key := mul_row (l0 := l) (A := B) (x := x) hik he
    have w4 : (x : Int) * (dg B k : Int) = ((x * dg B k : Nat) : Int) := by rw [Int.natCast_mul]
    generalize x * dg B k = p at *
    have w5 : (p : Int) % 18446744073709551616 = p := by omega
    have w6 : ((p : Int) + (dg l (i + k) : Int)) % 18446744073709551616 = (p : Int) + dg l (i + k) := by omega
    have w7 : ((p : Int) + (dg l (i + k) : Int) + (c : Int)) % 18446744073709551616 = ((p + dg l (i + k) + c : Nat) : Int) := by omega
    have w8 : ((p + dg l (i + k) + c : Nat) : Int) % 4294967296 = (((p + dg l (i + k) + c) % 4294967296 : Nat) : Int) := by omega
    have w9 : ((p + dg l (i + k) + c : Nat) : Int) / 4294967296 = (((p + dg l (i + k) + c) / 4294967296 : Nat) : Int) := by omega
    repeat (first | (simp (maxSteps := 9^7) only [seval, evB, c_nat_mul_b1, h1, e7, e8, w1, w2, w3, w4, w5, w6, w7, w8, w9 ]) | (simp (disch := omega) only [dsB,  store_n H, load_own G H]))
    exact mul_inner hB hx hs hn V m (k + 1) _ _ _ (by omega) (H.put _) (Dg_set hd (Nat.mod_lt _ (by decide))) (by rw [List.length_set]; exact hl) (by omega) (fun j hj => by rw [dg_set_ne (by omega)]; exact hz j hj) key
theorem mul_outer {A B : List Nat} {za zb : Bool} {b : Nat} (hA : Dg A) (hB : Dg B) (hs : A.length + B.length < 17179869184) : ∀ (m i : Nat) (h : Heap) (l : List Nat),
    m + i = A.length → Holds h b l → Dg l → l.length = A.length + B.length → (∀ j, i + B.length ≤ j → dg l j = 0) → val l = val (A.take i) * val B →
    Post (evL G T c_nat_mul_l2 [(1, D zb B), (5, .own b 0 (A.length + B.length) 1), (18, D za A), (19, .int .i64 ((A.length : Nat) : Int)), (20, .int .i64 (i : Int))] h) fun r =>
      ∃ e h' l', r = (.exit 0, (1, D zb B) :: (5, .own b 0 (A.length + B.length) 1) :: e, h') ∧ Holds h' b l' ∧ Dg l' ∧ l'.length = A.length + B.length ∧ val l' = val A * val B
  | 0, i, h, l, hm, H, hd, hl, hz, he => by
    rw [s_loopc G T (c := c_nat_mul_l2) rfl]
    have h1 : ¬ (i : Int) < A.length := by omega
    repeat (first | (simp (maxSteps := 9^7) only [seval, evB, c_nat_mul_b2, h1]) | (simp (disch := omega) only [dsB]))
    obtain rfl : i = A.length := by omega
    rw [List.take_length] at he
    exact Post.some ⟨_, _, _, rfl, H, hd, hl, he⟩
  | m + 1, i, h, l, hm, H, hd, hl, hz, he => by
    rw [s_loopc G T (c := c_nat_mul_l2) rfl]
    have h1 : (i : Int) < A.length := by omega
    have e7 : (i : Int) + 1 = ((i + 1 : Nat) : Int) := by omega
    have e8 : (i : Int) + (B.length : Int) = ((i + B.length : Nat) : Int) := by omega
    have hx := hA.dg i
    obtain ⟨_, hr, e, h', l', c', rfl, H', hd', hl', hc', hz', hv'⟩ := mul_inner (G := G) (T := T) (zb := zb) (i := i) (x := dg A i) (n := A.length + B.length) (va := D za A) (na := (A.length : Nat)) hB hx (by omega) (by omega) (val l) B.length 0 h l 0 (by omega) H hd hl (by omega) hz (by simp [val])
    rw [cast0] at hr
    have w1 : (c' : Int) % 4294967296 = c' := by omega
    repeat (first | (simp (maxSteps := 9^7) only [seval, evB, c_nat_mul_b2, h1, e7, e8, hr, w1 ]) | (simp (disch := omega) only [dsB,  store_n H']))
    refine mul_outer hA hB hs m (i + 1) _ _ (by omega) (H'.put _) (Dg_set hd' hc') (by rw [List.length_set]; exact hl') (fun j hj => by rw [dg_set_ne (by omega)]; exact hz' j (by omega)) ?_
    have h3 := val_set (l := l') (j := i + B.length) c' (by omega)
    rw [hz' _ (Nat.le_refl _), Nat.mul_zero, Nat.add_zero] at h3
    rw [h3, hv', he, val_take_succ', Nat.add_mul, Nat.mul_assoc]
theorem nat_mul (J : Al G T g) {z y : Bool} {a b : Nat} (hs : (dl a).length + (dl b).length < 17179869184) : ∃ z', run G T 113 [D z (dl a), D y (dl b)] = some (D z' (dl (a * b))) := by
  obtain ⟨_, hr, e, h', l', rfl, H, hd, hl, hv⟩ := mul_outer (G := G) (T := T) (za := z) (zb := y) (b := Heap.nil.b.length) (Dg_dl a) (Dg_dl b) hs (dl a).length 0 (new .nil (List.replicate ((dl a).length + (dl b).length) 0)) _ (by omega) (Holds_new FreH.nil _) (Dg_rep _) (by rw [List.length_replicate]) (fun j _ => by
    by_cases hj : j < ((dl a).length + (dl b).length)
    · rw [dg_lt (by rw [List.length_replicate]; exact hj), List.getElem_replicate]
    · exact dg_ge (by rw [List.length_replicate]; omega)) (by rw [List.take_zero]; simp [val, val_rep])
  rw [cast0] at hr
  rw [val_dl, val_dl] at hv
  have hsn := snap_own H (n := (dl a).length + (dl b).length) (by omega)
  rw [← hl, List.take_length] at hsn
  obtain ⟨z', hz⟩ := nat_trim J (z := false) hd (by omega)
  rw [hl] at hsn
  refine ⟨z', ?_⟩
  have e8 : ((dl a).length : Int) + ((dl b).length : Int) = (((dl a).length + (dl b).length : Nat) : Int) := by omega
  rw [run_k G T J.A.nat_mul, ← hv]
  repeat (first | (simp (maxSteps := 9^7) only [seval, evB, c_nat_mul, e8, hr, hsn, hz]) | (simp (disch := omega) only [dsB]))
theorem q_lt {X V D T P g : Nat} (hV : D * P ≤ V) (hX : X < (T + 1) * P) (hg : T < g * D) : X / V < g := by
  apply Nat.div_lt_of_lt_mul
  calc X < (T + 1) * P := hX
    _ ≤ (g * D) * P := Nat.mul_le_mul_right _ hg
    _ = g * (D * P) := Nat.mul_assoc ..
    _ ≤ g * V := Nat.mul_le_mul_left _ hV
    _ = V * g := Nat.mul_comm ..
theorem q_ge {X V D T P g : Nat} (h0 : 0 < V) (hV : V ≤ (D + 1) * P) (hX : T * P ≤ X) (hg : g * D ≤ T) (hD : g ≤ D + 1) : g ≤ X / V + 1 := by
  rcases Nat.eq_zero_or_pos g with rfl | hp
  · exact Nat.zero_le _
  · obtain ⟨k, rfl⟩ : ∃ k, g = k + 1 := ⟨g - 1, by omega⟩
    have : k ≤ X / V := by
      rw [Nat.le_div_iff_mul_le h0]
      calc k * V ≤ k * ((D + 1) * P) := Nat.mul_le_mul_left _ hV
        _ = (k * D + k) * P := by rw [← Nat.mul_assoc, Nat.mul_add, Nat.mul_one]
        _ ≤ ((k + 1) * D) * P := Nat.mul_le_mul_right _ (by rw [Nat.add_mul]; omega)
        _ ≤ T * P := Nat.mul_le_mul_right _ hg
        _ ≤ X := hX
    omega
theorem guess_end {X V v1 v2 t u P g l : Nat} (h0 : 0 < V) (hV : (v1 * 4294967296 + v2) * P ≤ V) (hV2 : V ≤ (v1 * 4294967296 + v2 + 1) * P) (hX1 : (t * 4294967296 + u) * P ≤ X)
    (hv1 : 1 ≤ v1) (hv2 : v2 < 4294967296) (hgl : g * v1 + l = t) (ht : t < v1 * 4294967296 + 4294967296) (hq : X / V ≤ g)
    (h : (g < 4294967296 ∧ g * v2 ≤ l * 4294967296 + u) ∨ 4294967296 ≤ l) : g < 4294967296 ∧ X / V ≤ g ∧ g ≤ X / V + 1 := by
  have hg : g < 4294967296 := by
    rcases h with h | h
    · exact h.1
    · apply Classical.byContradiction; intro hc
      have : 4294967296 * v1 ≤ g * v1 := Nat.mul_le_mul_right _ (by omega)
      omega
  refine ⟨hg, hq, q_ge h0 hV2 hX1 ?_ ?_⟩
  · have e : g * (v1 * 4294967296 + v2) = g * v1 * 4294967296 + g * v2 := by rw [Nat.mul_add, Nat.mul_assoc]
    rw [e, ← hgl]
    rcases h with h | h
    · have := h.2; omega
    · have : g * v2 ≤ 4294967295 * 4294967295 := Nat.mul_le_mul (by omega) (by omega)
      omega
  · omega
theorem div_lt_le {X V b g : Nat} (h : X < b * V) (hg : b ≤ g) : X / V < g := by
  have h2 : X < V * b := by rw [Nat.mul_comm]; exact h
  exact Nat.lt_of_lt_of_le (Nat.div_lt_of_lt_mul h2) hg
theorem guess_down {X V v1 v2 t u P g l : Nat} (hV : (v1 * 4294967296 + v2) * P ≤ V) (hX2 : X < (t * 4294967296 + u + 1) * P) (hXV : X < 4294967296 * V)
    (hgl : g * v1 + l = t) (h : 4294967296 ≤ g ∨ l * 4294967296 + u < g * v2) : X / V < g := by
  rcases h with h | h
  · exact div_lt_le hXV h
  · refine q_lt hV hX2 ?_
    have e : g * (v1 * 4294967296 + v2) = g * v1 * 4294967296 + g * v2 := by rw [Nat.mul_add, Nat.mul_assoc]
    rw [e, ← hgl, Nat.add_mul, Nat.add_assoc]
    exact Nat.add_lt_add_left h _
theorem guess_first {X V v1 t P Q g l : Nat} (hV : v1 * Q ≤ V) (hX2 : X < (t + 1) * Q) (hv1 : 0 < v1) : X / V ≤ t / v1 := by
  have h1 : X / V < t / v1 + 1 := by
    refine q_lt hV hX2 ?_
    have h2 := Nat.div_add_mod t v1
    have h3 := Nat.mod_lt t hv1
    rw [Nat.add_mul, Nat.one_mul, Nat.mul_comm (t / v1)]; omega
  omega
theorem take_step {A A' g V d c c' w z i x y n b : Nat} (hA : A' + 4294967296 ^ i * x = A + 4294967296 ^ i * n) (he : A + g * V = b + 4294967296 ^ i * (c + w)) (hd : n + y + w = x + 4294967296 * z) (hc : c + g * d = y + 4294967296 * c') :
    A' + g * (V + 4294967296 ^ i * d) = b + 4294967296 ^ (i + 1) * (c' + z) := by
  have e1 : g * (V + 4294967296 ^ i * d) = g * V + 4294967296 ^ i * (g * d) := by rw [Nat.mul_add, Nat.mul_left_comm]
  rw [e1, Nat.pow_succ, Nat.mul_assoc]
  generalize 4294967296 ^ i = p at *
  generalize g * d = m at *
  generalize g * V = gv at *
  have h1 : p * n + p * y + p * w = p * x + p * (4294967296 * z) := by rw [← Nat.mul_add, ← Nat.mul_add, hd, Nat.mul_add]
  have h2 : p * c + p * m = p * y + p * (4294967296 * c') := by rw [← Nat.mul_add, hc, Nat.mul_add]
  rw [Nat.mul_add] at he
  rw [Nat.mul_add, Nat.mul_add]
  omega
theorem back_step {A A' V d w z i x n b : Nat} (hA : A' + 4294967296 ^ i * x = A + 4294967296 ^ i * n) (he : A + 4294967296 ^ i * w = b + V) (hd : n + 4294967296 * z = x + d + w) :
    A' + 4294967296 ^ (i + 1) * z = b + (V + 4294967296 ^ i * d) := by
  rw [Nat.pow_succ, Nat.mul_assoc]
  generalize 4294967296 ^ i = p at *
  have h1 : p * n + p * (4294967296 * z) = p * x + p * d + p * w := by rw [← Nat.mul_add, hd, Nat.mul_add, Nat.mul_add]
  omega
theorem un_xor32 (x : Int) : evUn .xor (.int .u32 x) = some (.int .u32 (xorI .u32 4294967295 x)) := by rw [xorI_eq]; rfl
theorem xor32 {a b : Nat} (ha : a < 4294967296) (hb : b < 4294967296) : xorI .u32 (a : Int) (b : Int) = ((a ^^^ b : Nat) : Int) := by
  have : a ^^^ b < 2 ^ 32 := Nat.xor_lt_two_pow (n := 32) ha hb
  rw [xorI_eq]
  show IntKind.u32.wrap ((BitVec.ofInt 32 a ^^^ BitVec.ofInt 32 b).toNat : Int) = _
  rw [show BitVec.ofInt 32 (a : Int) = BitVec.ofNat 32 a from rfl, show BitVec.ofInt 32 (b : Int) = BitVec.ofNat 32 b from rfl, BitVec.toNat_xor, BitVec.toNat_ofNat, BitVec.toNat_ofNat, Nat.mod_eq_of_lt (by omega), Nat.mod_eq_of_lt (by omega), wrap_u32]
  omega
theorem top_bit {n : Nat} (h : n < 4294967296) : n / 2147483648 = (n.testBit 31).toNat := by
  rw [Nat.testBit_eq_decide_div_mod_eq, show (2 : Nat) ^ 31 = 2147483648 from rfl]
  by_cases h2 : n / 2147483648 % 2 = 1
  · rw [decide_eq_true h2]; simp only [Bool.toNat_true]; omega
  · rw [decide_eq_false h2]; simp only [Bool.toNat_false]; omega
theorem borrow_bit {x y d w z : Nat} (hx : x < 4294967296) (hy : y < 4294967296) (hd : d < 4294967296) (hw : w ≤ 1) (hz : z ≤ 1) (h : d + y + w = x + 4294967296 * z) :
    (((4294967295 ^^^ x) &&& y) ||| ((4294967295 ^^^ (x ^^^ y)) &&& d)) / 2147483648 = z := by
  have l1 : ((4294967295 ^^^ x) &&& y) ||| ((4294967295 ^^^ (x ^^^ y)) &&& d) < 4294967296 :=
    Nat.or_lt_two_pow (n := 32) (Nat.and_lt_two_pow _ hy) (Nat.and_lt_two_pow _ hd)
  rw [top_bit l1]
  have t1 : Nat.testBit 4294967295 31 = true := by decide
  simp only [Nat.testBit_or, Nat.testBit_and, Nat.testBit_xor, t1]
  have e : ∀ n, n < 4294967296 → n.testBit 31 = decide (2147483648 ≤ n) := fun n hn => by
    rw [Nat.testBit_eq_decide_div_mod_eq, show (2 : Nat) ^ 31 = 2147483648 from rfl]
    by_cases h2 : 2147483648 ≤ n
    · rw [decide_eq_true h2]; simp only [decide_eq_true_eq]; omega
    · rw [decide_eq_false h2]; simp only [decide_eq_false_iff_not]; omega
  rw [e x hx, e y hy, e d hd]
  by_cases a : 2147483648 ≤ x <;> by_cases b : 2147483648 ≤ y <;> by_cases c : 2147483648 ≤ d <;> simp [a, b, c] <;> omega
theorem bits_Sub32 (J : Al G T g) {x y w d z : Nat} (hx : x < 4294967296) (hy : y < 4294967296) (hw : w ≤ 1) (hd : d < 4294967296) (hz : z ≤ 1) (h : d + y + w = x + 4294967296 * z) :
    run G T 121 [.int .u32 (x : Int), .int .u32 (y : Int), .int .u32 (w : Int)] = some (.tup [.int .u32 (d : Int), .int .u32 (z : Int)]) := by
  rw [run_k G T J.A.bits_Sub32]
  have w1 : ((x : Int) - y) % 4294967296 = ((x : Int) - y) % 4294967296 := rfl
  have w2 : (((x : Int) - y) % 4294967296 - w) % 4294967296 = (d : Int) := by omega
  have n1 : (4294967295 ^^^ x) < 4294967296 := Nat.xor_lt_two_pow (n := 32) (by decide) hx
  have n2 : (x ^^^ y) < 4294967296 := Nat.xor_lt_two_pow (n := 32) hx hy
  have n3 : (4294967295 ^^^ (x ^^^ y)) < 4294967296 := Nat.xor_lt_two_pow (n := 32) (by decide) n2
  have x1 := xor32 (a := 4294967295) (b := x) (by decide) hx
  have x2 := xor32 hx hy
  have x3 := xor32 (a := 4294967295) (b := x ^^^ y) (by decide) n2
  rw [show ((4294967295 : Nat) : Int) = 4294967295 from rfl] at x1 x3
  have a1 := and32 n1 hy
  have a2 := and32 n3 hd
  have l1 := Nat.and_lt_two_pow (n := 32) (4294967295 ^^^ x) hy
  have l2 := Nat.and_lt_two_pow (n := 32) (4294967295 ^^^ (x ^^^ y)) hd
  have o1 := or32 l1 l2
  have b1 := borrow_bit hx hy hd hw hz h
  have b2 : (((((4294967295 ^^^ x) &&& y) ||| ((4294967295 ^^^ (x ^^^ y)) &&& d)) : Nat) : Int) / 2147483648 = (z : Int) := by
    rw [← b1]; rfl
  repeat (first | (simp (maxSteps := 9^7) only [seval, evB, c_bits_Sub32, un_xor32, w2, x1, x2, x3, a1, a2, o1, b2]) | (simp (disch := omega) only [dsB]))
theorem bits_Add32 (J : Al G T g) {x y w d z : Nat} (hx : x < 4294967296) (hy : y < 4294967296) (hw : w ≤ 1) (hd : d < 4294967296) (hz : z ≤ 1) (h : d + 4294967296 * z = x + y + w) :
    run G T 112 [.int .u32 (x : Int), .int .u32 (y : Int), .int .u32 (w : Int)] = some (.tup [.int .u32 (d : Int), .int .u32 (z : Int)]) := by
  rw [run_k G T J.A.bits_Add32]
  have w1 : (x : Int) % 18446744073709551616 = x := by omega
  have w2 : (y : Int) % 18446744073709551616 = y := by omega
  have w3 : (w : Int) % 18446744073709551616 = w := by omega
  have w4 : ((x : Int) + y) % 18446744073709551616 = (x : Int) + y := by omega
  have w5 : ((x : Int) + y + w) % 18446744073709551616 = (x : Int) + y + w := by omega
  have w6 : ((x : Int) + y + w) % 4294967296 = d := by omega
  have w7 : ((x : Int) + y + w) / 4294967296 = z := by omega
  have w8 : (z : Int) % 4294967296 = z := by omega
  repeat (first | (simp (maxSteps := 9^7) only [seval, evB, c_bits_Add32, w1, w2, w3, w4, w5, w6, w7, w8]) | (simp (disch := omega) only [dsB]))
theorem bits_Lz (J : Al G T g) {x : Nat} (hx : x < 4294967296) : run G T 119 [.int .u32 (x : Int)] = some (.int .i64 ((32 - blen x : Nat) : Int)) := by
  rw [run_k G T J.A.bits_LeadingZeros32]
  have h1 := bits_Len32 (G := G) J hx
  have hb : blen x ≤ 32 := blen_le.2 hx
  have w1 : (32 : Int) - (blen x : Nat) = ((32 - blen x : Nat) : Int) := by omega
  repeat (first | (simp (maxSteps := 9^7) only [seval, evB, c_bits_LeadingZeros32, h1, w1]) | (simp (disch := omega) only [dsB]))
end Go.Cv
