/-
  A part of the proof of the statements of this seat (texts that the law's own text leans on): no condition.
-/
import Derived.Test.YthhmfdmdhbbehaaDoorM6
set_option linter.unusedVariables false
set_option linter.unusedSimpArgs false
/-
  What rounding tells, as words: the shape of all answers.
-/
namespace Go.Cv

/-- What stands for a size that is too great. -/
def ovs (F : Fm) (md : Int) (neg : Bool) : Nat := if md = 3 ∨ (md = 4 ∧ neg = true) ∨ (md = 5 ∧ neg = false) then F.i0 - 1 else F.i0
theorem ovr_eq (F : Fm) (md : Int) (neg : Bool) : ovr F md neg = ovs F md neg + F.sgn neg := by
  have := fm_i0 F
  unfold ovr ovs
  rw [inf_eq]
  split <;> omega

/-- All that rounding tells of a number that is not nought: e0 is the word's size below it. -/
structure Shp (F : Fm) (d : Dy) (L : Int) (A U W e0 : Nat) (u : Int) (ex : Bool) : Prop where
  hL : L < F.low ∧ L < d.e ∧ L < u
  hA : A = d.m * 2 ^ (d.e - L).toNat
  hU : U = 2 ^ (u - L).toNat
  lou : F.low ≤ u
  he0 : e0 = F.enc W u
  wb : W ≤ 2 ^ (F.fr + 1) ∧ (ex = false → W + 1 ≤ 2 ^ (F.fr + 1))
  wc : u = F.low ∨ 2 ^ F.fr ≤ W
  all : ∀ md : Int, 1 ≤ md → md ≤ 5 → ∃ b fl, rndW F md d = ((if F.i0 ≤ e0 + b.toNat then ovs F md d.n else e0 + b.toNat) + F.sgn d.n, if F.i0 ≤ e0 + b.toNat then 20 else if ex then 0 else fl) ∧
    (fl = 16 ∨ fl = 24) ∧ Rd md d.n A U W ex b

theorem shp_of (F : Fm) {d : Dy} (h0 : d.m ≠ 0) {L : Int} (l1 : L < F.low) (l2 : L < d.e) : ∃ A U W e0 u ex, Shp F d L A U W e0 u ex ∧ u = F.eOf (d.e + blen d.m) := by
  have hu : F.low ≤ F.eOf (d.e + blen d.m) := by unfold Fm.eOf; omega
  refine ⟨_, _, d.m * 2 ^ (d.e - L).toNat / 2 ^ (F.eOf (d.e + blen d.m) - L).toNat, _, F.eOf (d.e + blen d.m), decide (d.m * 2 ^ (d.e - L).toNat % 2 ^ (F.eOf (d.e + blen d.m) - L).toNat = 0), ⟨⟨l1, l2, by omega⟩, rfl, rfl, hu, rfl, ?_, ?_, ?_⟩, rfl⟩
  · obtain ⟨b, e1, R⟩ := rnd_Rd 3 d.n d.m (E := d.e) (u := F.eOf (d.e + blen d.m)) (L := L) (by omega) (by omega)
    have q := (rnd_bd F (md := 3) h0).1
    rw [e1, R.b3 rfl] at q
    refine ⟨by simpa using q, fun hx => ?_⟩
    cases hn : d.n
    · obtain ⟨b, e1, R⟩ := rnd_Rd 4 d.n d.m (E := d.e) (u := F.eOf (d.e + blen d.m)) (L := L) (by omega) (by omega)
      have q := (rnd_bd F (md := 4) h0).1
      rw [e1, R.b4 rfl, hx, hn] at q
      simpa using q
    · obtain ⟨b, e1, R⟩ := rnd_Rd 5 d.n d.m (E := d.e) (u := F.eOf (d.e + blen d.m)) (L := L) (by omega) (by omega)
      have q := (rnd_bd F (md := 5) h0).1
      rw [e1, R.b5 rfl, hx, hn] at q
      simpa using q
  · obtain ⟨b, e1, R⟩ := rnd_Rd 3 d.n d.m (E := d.e) (u := F.eOf (d.e + blen d.m)) (L := L) (by omega) (by omega)
    have q := (rnd_bd F (md := 3) h0).2.1
    rw [e1, R.b3 rfl] at q
    simpa using q
  · intro md m1 m2
    obtain ⟨b, e1, R⟩ := rnd_Rd md d.n d.m (E := d.e) (u := F.eOf (d.e + blen d.m)) (L := L) (by omega) (by omega)
    obtain ⟨q1, q2, _, _⟩ := rnd_bd F (md := md) h0
    have hb := enc_big F q1 hu q2
    have hs : rndW F md d = wordOf F md d.n (rnd md d.n d.m d.e (F.eOf (d.e + blen d.m))).1 (rnd md d.n d.m d.e (F.eOf (d.e + blen d.m))).2 (F.eOf (d.e + blen d.m)) (d.e + blen d.m) (rnd md d.n d.m d.e (d.e + blen d.m - F.fr - 1)).1 := by
      simp only [rndW, if_neg h0]
    have he : F.enc (rnd md d.n d.m d.e (F.eOf (d.e + blen d.m))).1 (F.eOf (d.e + blen d.m)) = F.enc (d.m * 2 ^ (d.e - L).toNat / 2 ^ (F.eOf (d.e + blen d.m) - L).toNat) (F.eOf (d.e + blen d.m)) + b.toNat := by
      rw [e1]; unfold Fm.enc; simp only; omega
    rw [he] at hb
    refine ⟨b, if blen (rnd md d.n d.m d.e (d.e + blen d.m - F.fr - 1)).1 + (d.e + blen d.m - F.fr - 1) < F.low + F.fr + 1 then 24 else 16, ?_, by split <;> simp, R⟩
    rw [hs]
    unfold wordOf
    rw [he]
    by_cases hv : F.wide < blen (rnd md d.n d.m d.e (F.eOf (d.e + blen d.m))).1 + F.eOf (d.e + blen d.m)
    · rw [if_pos hv, if_pos (hb.1 hv), if_pos (hb.1 hv), ovr_eq]
    · have hv' := fun h => hv (hb.2 h)
      rw [if_neg hv, if_neg hv', if_neg hv']
      congr 1
      rw [e1]

/-! ### the words that stand for sizes -/
theorem iv_val_L {F : Fm} {s : Nat} (n : Bool) (h : s < F.i0) {L : Int} (hL : L ≤ F.low) : iv (F.val (s + F.sgn n)) L = (if n then -1 else 1) * ((magN F s * 2 ^ (F.low - L).toNat : Nat) : Int) ∧ LoE (F.val (s + F.sgn n)) L := by
  obtain ⟨h1, h2, _⟩ := iv_val n h
  refine ⟨?_, h2.mono hL⟩
  rw [iv_scale h2 hL, h1, Int.mul_assoc, ← Int.natCast_mul]
theorem iv_num {d : Dy} {L : Int} : iv d L = (if d.n then -1 else 1) * ((d.m * 2 ^ (d.e - L).toNat : Nat) : Int) := rfl

section
variable {F : Fm} {d : Dy} {L : Int} {A U W e0 : Nat} {u : Int} {ex : Bool}
theorem Shp.worth (S : Shp F d L A U W e0 u ex) : magN F e0 * 2 ^ (F.low - L).toNat = W * U := by
  rw [S.he0, magN_enc F S.wb.1 S.lou S.wc, S.hU, Nat.mul_assoc, ← Nat.pow_add]
  have := S.hL; have := S.lou
  rw [show (u - F.low).toNat + (F.low - L).toNat = (u - L).toNat by omega]
theorem Shp.worth1 (S : Shp F d L A U W e0 u ex) (hx : ex = false) : magN F (e0 + 1) * 2 ^ (F.low - L).toNat = (W + 1) * U := by
  rw [S.he0, ← enc_succ, magN_enc F (S.wb.2 hx) S.lou (S.wc.imp id fun h => by omega), S.hU, Nat.mul_assoc, ← Nat.pow_add]
  have := S.hL; have := S.lou
  rw [show (u - F.low).toNat + (F.low - L).toNat = (u - L).toNat by omega]
/-- A word of a size below the infinite one, and a number: which is greater. -/
theorem cmp_size {s : Nat} (n : Bool) (h : s < F.i0) (hL : L ≤ F.low) (hd : LoE d L) : cmpD (F.val (s + F.sgn n)) d = sgI ((if n then -1 else 1) * ((magN F s * 2 ^ (F.low - L).toNat : Nat) : Int) - iv d L) := by
  obtain ⟨h1, h2⟩ := iv_val_L n h hL
  rw [cmp_iv h2 hd, h1]
end
end Go.Cv

/-
  Any number lies between the words to which it is rounded down and up.
-/
namespace Go.Cv

theorem cls_size {F : Fm} {s : Nat} (n : Bool) (h : s ≤ F.i0) : (F.cls (s + F.sgn n) = 1 ↔ s = 0) ∧ (F.cls (s + F.sgn n) = 4 ↔ s = F.i0) ∧ F.cls (s + F.sgn n) ≠ 5 := by
  have hi := fm_i0 F
  obtain ⟨e1, e2⟩ := sgn_mod n (by omega : s < F.sg)
  unfold Fm.cls Fm.ex Fm.fc
  rw [e1]
  unfold Fm.i0 at *
  have hp := Nat.two_pow_pos F.fr
  have hm : 1 < F.most := by cases F <;> decide
  generalize F.most = K at *
  generalize 2 ^ F.fr = P at *
  have hd := Nat.div_add_mod s P
  have hml := Nat.mod_lt s hp
  have h3 : s / P ≤ K := by
    apply Nat.div_le_of_le_mul; rw [Nat.mul_comm]; exact h
  have h4 : s / P = K → s % P = 0 := by
    intro hk; rw [hk, Nat.mul_comm] at hd; omega
  have h5 : s / P = 0 → s = s % P := by intro hk; rw [hk, Nat.mul_zero] at hd; omega
  have h6 : s / P = K ↔ s = K * P := by
    constructor
    · intro hk; have := h4 hk; rw [hk, this, Nat.mul_comm] at hd; omega
    · intro hk; rw [hk, Nat.mul_div_cancel _ hp]
  have h7 : K * P ≠ 0 := by have := Nat.mul_pos (by omega : 0 < K) hp; omega
  have h8 : s = 0 → s / P = 0 := by rintro rfl; exact Nat.zero_div _
  generalize s / P = x at *
  generalize s % P = y at *
  generalize K * P = KP at *
  clear hd
  refine ⟨?_, ?_, ?_⟩ <;> (repeat' split) <;> omega

/-- What the law on 'between' asks of the words. -/
structure Betw (F : Fm) (md : Int) (d : Dy) : Prop where
  ws : ∀ m : Int, 1 ≤ m → m ≤ 5 → ∃ s : Nat, s ≤ F.i0 ∧ (rndW F m d).1 = s + F.sgn d.n
  under : (F.cls (rndW F 5 d).1 = 4 ∧ (rndW F 5 d).1 = F.inf true) ∨ (F.fin (rndW F 5 d).1 ∧ cmpD (F.val (rndW F 5 d).1) d ≤ 0)
  over : (F.cls (rndW F 4 d).1 = 4 ∧ (rndW F 4 d).1 = F.inf false) ∨ (F.fin (rndW F 4 d).1 ∧ 0 ≤ cmpD (F.val (rndW F 4 d).1) d)
  same : (rndW F 5 d).1 = (rndW F 4 d).1 → (rndW F 5 d).2 = 0 ∧ (rndW F 4 d).2 = 0 ∧ (rndW F md d).2 = 0 ∧ (rndW F md d).1 = (rndW F 5 d).1 ∧ (rndW F 3 d).1 = (rndW F 5 d).1
  step : (rndW F 5 d).1 ≠ (rndW F 4 d).1 → (if (rndW F 5 d).1 % F.sg = 0 then (1, true) else F.up (rndW F 5 d).1) = ((rndW F 4 d).1, true) ∧ ¬ ((rndW F 4 d).1 = F.sg ∧ (rndW F 4 d).1 = 0)
  flag : ∀ m : Int, 1 ≤ m → m ≤ 5 → (rndW F 5 d).1 ≠ (rndW F 4 d).1 → (rndW F m d).2 = 16 ∨ (rndW F m d).2 = 20 ∨ (rndW F m d).2 = 24
  one : (rndW F 5 d).1 ≠ (rndW F 4 d).1 → ((rndW F md d).1 = (rndW F 5 d).1 ∨ (rndW F md d).1 = (rndW F 4 d).1) ∧ ((rndW F 3 d).1 = (rndW F 5 d).1 ↔ d.n = false) ∧ ((rndW F 3 d).1 = (rndW F 4 d).1 ↔ d.n = true)

theorem up_pos {F : Fm} {x : Nat} (h : x < F.i0) : (if x % F.sg = 0 then (1, true) else F.up x) = (x + 1, true) := by
  have hi := fm_i0 F
  obtain ⟨c1, c2, c3⟩ := cls_size (F := F) false (Nat.le_of_lt h)
  obtain ⟨e1, e2⟩ := sgn_mod (F := F) false (by omega : x < F.sg)
  simp only [Fm.sgn, Bool.false_eq_true, if_false, Nat.add_zero] at c1 c2 c3 e1 e2
  rw [e1]
  by_cases h0 : x = 0
  · rw [if_pos h0, h0]
  · rw [if_neg h0]
    unfold Fm.up
    rw [if_neg (fun q => by have := c2.1 q.1; omega), if_neg (fun q => h0 (c1.1 q)), e2]
    rfl
theorem up_neg {F : Fm} {x : Nat} (h : x < F.i0) : (if (x + 1 + F.sg) % F.sg = 0 then (1, true) else F.up (x + 1 + F.sg)) = (x + F.sg, true) := by
  have hi := fm_i0 F
  obtain ⟨c1, c2, c3⟩ := cls_size (F := F) (s := x + 1) true (by omega)
  obtain ⟨e1, e2⟩ := sgn_mod (F := F) (s := x + 1) true (by omega)
  simp only [Fm.sgn, if_true] at c1 c2 c3 e1 e2
  rw [e1, if_neg (by omega)]
  unfold Fm.up
  rw [if_neg (fun q => by rw [e2] at q; exact absurd q.2 (by decide)), if_neg (fun q => by have := c1.1 q; omega), e2, if_pos rfl]
  congr 1; omega

section
variable {F : Fm} {md : Int} {d : Dy} {L : Int} {A : Nat}
theorem betw_pos (hL : L ≤ F.low) (hle : LoE d L) (hd : iv d L = A) (hn : d.n = false) {x : Nat} (hx : x < F.i0)
    (hws : ∀ m : Int, 1 ≤ m → m ≤ 5 → ∃ s : Nat, s ≤ F.i0 ∧ (rndW F m d).1 = s + F.sgn d.n)
    (E5 : (rndW F 5 d).1 = x) (E4 : (rndW F 4 d).1 = x + 1) (E3 : (rndW F 3 d).1 = x) (E : (rndW F md d).1 = x ∨ (rndW F md d).1 = x + 1)
    (hf : ∀ m : Int, 1 ≤ m → m ≤ 5 → (rndW F m d).2 = 16 ∨ (rndW F m d).2 = 20 ∨ (rndW F m d).2 = 24)
    (h1 : magN F x * 2 ^ (F.low - L).toNat ≤ A) (h2 : x + 1 < F.i0 → A ≤ magN F (x + 1) * 2 ^ (F.low - L).toNat) : Betw F md d := by
  have hi := fm_i0 F
  have s0 : F.sgn false = 0 := rfl
  refine ⟨hws, ?_, ?_, fun h => ?_, fun _ => ?_, fun m a b _ => hf m a b, fun _ => ?_⟩
  · right
    have c := cmp_size (F := F) (s := x) false hx hL hle
    have fz := fin_size (F := F) (s := x) false hx
    rw [s0, Nat.add_zero] at c fz
    rw [E5]
    refine ⟨fz, ?_⟩
    rw [c, hd]
    have : ¬ 0 < sgI ((if false = true then -1 else 1) * ((magN F x * 2 ^ (F.low - L).toNat : Nat) : Int) - (A : Int)) := by
      rw [sgI_pos]; simp only [Bool.false_eq_true, if_false]; omega
    omega
  · rw [E4]
    by_cases h3 : x + 1 < F.i0
    · right
      have c := cmp_size (F := F) (s := x + 1) false h3 hL hle
      have fz := fin_size (F := F) (s := x + 1) false h3
      rw [s0, Nat.add_zero] at c fz
      refine ⟨fz, ?_⟩
      rw [c, hd]
      have := h2 h3
      have : ¬ sgI ((if false = true then -1 else 1) * ((magN F (x + 1) * 2 ^ (F.low - L).toNat : Nat) : Int) - (A : Int)) < 0 := by
        rw [sgI_neg]; simp only [Bool.false_eq_true, if_false]; omega
      omega
    · left
      have e : x + 1 = F.inf false := by rw [inf_eq, s0]; omega
      rw [e]; exact ⟨cls_inf F false, rfl⟩
  · rw [E5, E4] at h; omega
  · rw [E5, E4]; exact ⟨up_pos hx, by omega⟩
  · rw [E5, E4, E3, hn]
    refine ⟨E, ⟨fun _ => rfl, fun _ => rfl⟩, ⟨fun h => by omega, fun h => by cases h⟩⟩

theorem betw_neg (hL : L ≤ F.low) (hle : LoE d L) (hd : iv d L = -(A : Int)) (hn : d.n = true) {x : Nat} (hx : x < F.i0)
    (hws : ∀ m : Int, 1 ≤ m → m ≤ 5 → ∃ s : Nat, s ≤ F.i0 ∧ (rndW F m d).1 = s + F.sgn d.n)
    (E5 : (rndW F 5 d).1 = x + 1 + F.sg) (E4 : (rndW F 4 d).1 = x + F.sg) (E3 : (rndW F 3 d).1 = x + F.sg) (E : (rndW F md d).1 = x + F.sg ∨ (rndW F md d).1 = x + 1 + F.sg)
    (hf : ∀ m : Int, 1 ≤ m → m ≤ 5 → (rndW F m d).2 = 16 ∨ (rndW F m d).2 = 20 ∨ (rndW F m d).2 = 24)
    (h1 : magN F x * 2 ^ (F.low - L).toNat ≤ A) (h2 : x + 1 < F.i0 → A ≤ magN F (x + 1) * 2 ^ (F.low - L).toNat) : Betw F md d := by
  have hi := fm_i0 F
  have s0 : F.sgn true = F.sg := rfl
  refine ⟨hws, ?_, ?_, fun h => ?_, fun _ => ?_, fun m a b _ => hf m a b, fun _ => ?_⟩
  · rw [E5]
    by_cases h3 : x + 1 < F.i0
    · right
      have c := cmp_size (F := F) (s := x + 1) true h3 hL hle
      have fz := fin_size (F := F) (s := x + 1) true h3
      rw [s0] at c fz
      refine ⟨fz, ?_⟩
      rw [c, hd]
      have := h2 h3
      have : ¬ 0 < sgI ((if true = true then -1 else 1) * ((magN F (x + 1) * 2 ^ (F.low - L).toNat : Nat) : Int) - -(A : Int)) := by
        rw [sgI_pos]; simp only [if_true]; omega
      omega
    · left
      have e : x + 1 + F.sg = F.inf true := by rw [inf_eq, s0]; omega
      rw [e]; exact ⟨cls_inf F true, rfl⟩
  · right
    have c := cmp_size (F := F) (s := x) true hx hL hle
    have fz := fin_size (F := F) (s := x) true hx
    rw [s0] at c fz
    rw [E4]
    refine ⟨fz, ?_⟩
    rw [c, hd]
    have : ¬ sgI ((if true = true then -1 else 1) * ((magN F x * 2 ^ (F.low - L).toNat : Nat) : Int) - -(A : Int)) < 0 := by
      rw [sgI_neg]; simp only [if_true]; omega
    omega
  · rw [E5, E4] at h; omega
  · rw [E5, E4]; exact ⟨up_neg hx, by omega⟩
  · rw [E5, E4, E3, hn]
    refine ⟨E.symm, ⟨fun h => by omega, fun h => by cases h⟩, ⟨fun _ => rfl, fun _ => rfl⟩⟩

theorem betw_eq (hL : L ≤ F.low) (hle : LoE d L) (hd : iv d L = (if d.n then -1 else 1) * (A : Int)) {x : Nat} (hx : x < F.i0)
    (hws : ∀ m : Int, 1 ≤ m → m ≤ 5 → ∃ s : Nat, s ≤ F.i0 ∧ (rndW F m d).1 = s + F.sgn d.n)
    (E5 : rndW F 5 d = (x + F.sgn d.n, 0)) (E4 : rndW F 4 d = (x + F.sgn d.n, 0)) (E3 : rndW F 3 d = (x + F.sgn d.n, 0)) (E : rndW F md d = (x + F.sgn d.n, 0))
    (h1 : magN F x * 2 ^ (F.low - L).toNat = A) : Betw F md d := by
  have c := cmp_size (F := F) (s := x) d.n hx hL hle
  have fz := fin_size (F := F) (s := x) d.n hx
  rw [h1, hd, Int.sub_self] at c
  refine ⟨hws, ?_, ?_, fun h => ?_, fun h => ?_, fun m a b h => ?_, fun h => ?_⟩
  · rw [E5]; right; exact ⟨fz, by rw [c]; decide⟩
  · rw [E4]; right; exact ⟨fz, by rw [c]; decide⟩
  · rw [E5, E4, E3, E]; exact ⟨rfl, rfl, rfl, rfl, rfl⟩
  · rw [E5, E4] at h; exact absurd rfl h
  · rw [E5, E4] at h; exact absurd rfl h
  · rw [E5, E4] at h; exact absurd rfl h
end

theorem between (F : Fm) {md : Int} (m1 : 1 ≤ md) (m2 : md ≤ 5) {d : Dy} (h0 : d.m ≠ 0) : Betw F md d := by
  have hi := fm_i0 F
  obtain ⟨L, l1, l2⟩ : ∃ L : Int, L < F.low ∧ L < d.e := ⟨min F.low d.e - 1, by omega, by omega⟩
  obtain ⟨A, U, W, e0, u, ex, S, _⟩ := shp_of F h0 l1 l2
  obtain ⟨b5, f5, r5, g5, R5⟩ := S.all 5 (by decide) (by decide)
  obtain ⟨b4, f4, r4, g4, R4⟩ := S.all 4 (by decide) (by decide)
  obtain ⟨b3, f3, r3, g3, R3⟩ := S.all 3 (by decide) (by decide)
  obtain ⟨b, f, r, g, R⟩ := S.all md m1 m2
  have x5 := R5.b5 rfl
  have x4 := R4.b4 rfl
  have x3 := R3.b3 rfl
  have hw := S.worth
  have hw1 := S.worth1
  have hlo := R.lo
  have hhi := R.hi
  have hex := R.exi
  have hd : iv d L = (if d.n then -1 else 1) * (A : Int) := by rw [iv_num, S.hA]
  have hle : LoE d L := Or.inr (by omega)
  have hbig : F.i0 ≤ e0 → magN F (F.i0 - 1) * 2 ^ (F.low - L).toNat ≤ A := fun h => Nat.le_trans (Nat.mul_le_mul_right _ (magN_le F (by omega : F.i0 - 1 ≤ e0))) (by rw [hw]; exact hlo)
  have hovs : ∀ m n, ovs F m n = F.i0 - 1 ∨ ovs F m n = F.i0 := fun m n => by unfold ovs; split <;> omega
  have hws : ∀ m : Int, 1 ≤ m → m ≤ 5 → ∃ s : Nat, s ≤ F.i0 ∧ (rndW F m d).1 = s + F.sgn d.n := fun m a1 a2 => by
    obtain ⟨b, f, r, _, _⟩ := S.all m a1 a2
    refine ⟨_, ?_, by rw [r]⟩
    split
    · have := hovs m d.n; omega
    · omega
  have hf : (F.i0 ≤ e0 ∨ ex = false) → ∀ m : Int, 1 ≤ m → m ≤ 5 → (rndW F m d).2 = 16 ∨ (rndW F m d).2 = 20 ∨ (rndW F m d).2 = 24 := fun h m a1 a2 => by
    obtain ⟨b, f, r, g, _⟩ := S.all m a1 a2
    rw [r]; simp only
    by_cases q : F.i0 ≤ e0 + b.toNat
    · rw [if_pos q]; exact Or.inr (Or.inl rfl)
    · rw [if_neg q]
      have : ex = false := h.resolve_left (by omega)
      rw [this]; simp only [Bool.false_eq_true, if_false]; omega
  by_cases hb : F.i0 ≤ e0
  · have t : ∀ b : Bool, F.i0 ≤ e0 + b.toNat := fun b => by omega
    rw [if_pos (t b5)] at r5
    rw [if_pos (t b4)] at r4
    rw [if_pos (t b3)] at r3
    rw [if_pos (t b)] at r
    cases hn : d.n
    · rw [hn] at r5 r4 r3 r hd
      have o5 : ovs F 5 false = F.i0 - 1 := by simp [ovs]
      have o4 : ovs F 4 false = F.i0 := by simp [ovs]
      have o3 : ovs F 3 false = F.i0 - 1 := by simp [ovs]
      refine betw_pos (x := F.i0 - 1) (by omega) hle (by rw [hd]; simp) hn (by omega) hws (by rw [r5, o5]; rfl) (by rw [r4, o4]; simp only [Fm.sgn, Bool.false_eq_true, if_false]; omega) (by rw [r3, o3]; rfl) ?_ (hf (Or.inl hb)) (hbig hb) (fun h => by omega)
      rw [r]; simp only [Fm.sgn, Bool.false_eq_true, if_false]
      have := hovs md false; omega
    · rw [hn] at r5 r4 r3 r hd
      have o5 : ovs F 5 true = F.i0 := by simp [ovs]
      have o4 : ovs F 4 true = F.i0 - 1 := by simp [ovs]
      have o3 : ovs F 3 true = F.i0 - 1 := by simp [ovs]
      refine betw_neg (x := F.i0 - 1) (by omega) hle (by rw [hd]; simp) hn (by omega) hws (by rw [r5, o5]; simp only [Fm.sgn, if_true]; omega) (by rw [r4, o4]; rfl) (by rw [r3, o3]; rfl) ?_ (hf (Or.inl hb)) (hbig hb) (fun h => by omega)
      rw [r]; simp only [Fm.sgn, if_true]
      have := hovs md true; omega
  · cases hx : ex
    · subst hx
      have hw1 := hw1 rfl
      have hup : A ≤ magN F (e0 + 1) * 2 ^ (F.low - L).toNat := by rw [hw1]; omega
      have hdn : magN F e0 * 2 ^ (F.low - L).toNat ≤ A := by rw [hw]; exact hlo
      cases hn : d.n
      · rw [hn] at r5 r4 r3 r hd x5 x4
        subst x5 x4 x3
        have o4 : ovs F 4 false = F.i0 := by simp [ovs]
        refine betw_pos (x := e0) (by omega) hle (by rw [hd]; simp) hn (by omega) hws (by rw [r5]; simp [hb, Fm.sgn]) ?_ (by rw [r3]; simp [hb, Fm.sgn]) ?_ (hf (Or.inr rfl)) hdn (fun _ => hup)
        · rw [r4]; simp only [o4, Bool.not_false, Bool.and_self, Bool.toNat_true, Fm.sgn, Bool.false_eq_true, if_false]; split <;> omega
        · rw [r]
          cases b
          · left; simp [hb, Fm.sgn]
          · right
            have m3 : md ≠ 3 := fun h => by have := R.b3 h; cases this
            have m5 : md ≠ 5 := fun h => by have := R.b5 h; rw [hn] at this; cases this
            have o : ovs F md false = F.i0 := by simp [ovs, m3, m5]
            simp only [o, Bool.toNat_true, Fm.sgn, Bool.false_eq_true, if_false]; split <;> omega
      · rw [hn] at r5 r4 r3 r hd x5 x4
        subst x5 x4 x3
        have o5 : ovs F 5 true = F.i0 := by simp [ovs]
        refine betw_neg (x := e0) (by omega) hle (by rw [hd]; simp) hn (by omega) hws ?_ (by rw [r4]; simp [hb, Fm.sgn]) (by rw [r3]; simp [hb, Fm.sgn]) ?_ (hf (Or.inr rfl)) hdn (fun _ => hup)
        · rw [r5]; simp only [o5, Bool.not_false, Bool.and_self, Bool.toNat_true, Fm.sgn, if_true]; split <;> omega
        · rw [r]
          cases b
          · left; simp [hb, Fm.sgn]
          · right
            have m3 : md ≠ 3 := fun h => by have := R.b3 h; cases this
            have m4 : md ≠ 4 := fun h => by have := R.b4 h; rw [hn] at this; cases this
            have o : ovs F md true = F.i0 := by simp [ovs, m3, m4]
            simp only [o, Bool.toNat_true, Fm.sgn, if_true]; split <;> omega
    · subst hx
      have y5 := R5.xb rfl
      have y4 := R4.xb rfl
      have y := R.xb rfl
      subst y5 y4 y x3
      refine betw_eq (x := e0) (by omega) hle hd (by omega) hws (by rw [r5]; simp [hb]) (by rw [r4]; simp [hb]) (by rw [r3]; simp [hb]) (by rw [r]; simp [hb]) ?_
      rw [hw]; exact (hex.1 rfl).symm
end Go.Cv

/-
  The statement on the words below and above a number.
-/
namespace Go.Cv
variable {G : Nat → Option (List AV)} {T : Tbl} {g : Nat}

theorem and16 {x : Nat} (h : x = 16 ∨ x = 20 ∨ x = 24) : andI .u8 (x : Int) 16 = 16 := by
  rw [andI_eq]; rcases h with rfl | rfl | rfl <;> rfl
theorem word_lt {F : Fm} {s : Nat} (n : Bool) (h : s ≤ F.i0) : s + F.sgn n < 2 * F.sg := by
  have := fm_i0 F
  unfold Fm.sgn; split <;> omega

set_option maxHeartbeats 4000000 in
theorem law04_RoundBetween (hA : HasA g T) (hB : HasB g T) (hC : HasC g T) (hG : Glob G g) (hD : HasD g T) (hE : HasE g T) (hT : HasF g T) (hK : run G T 5 [] = some (.bool true))
    {f m : Int} {n z : Bool} {l : List Nat} {e : Int} (hl : Dg l) :
    run G T 141 [.int .u8 f, .int .u8 m, A3 n (D z l) e] = some (.bool true) := by
  rw [run_k G T hT.law04_RoundBetween]
  have h1 := law04_long (G := G) (T := T) hE (n := n) (z := z) (l := l) (e := e)
  by_cases hlong : 300 < l.length
  · rw [decide_eq_true hlong] at h1
    simp only [A3] at *
    repeat' (first | (simp (maxSteps := 1000000) only [evB, if_true, if_false, ne_eq, Nat.reduceEqDiff, Nat.reduceAdd, reduceCtorEq, Int.reduceLE, Int.reduceLT, Int.reduceEq, Int.reduceNeg, Int.reduceToNat, Int.reducePow, Int.reduceMod, Int.reduceDiv, Int.reduceSub, Int.reduceAdd, Int.reduceMul, Nat.reduceMul, Nat.reduceSub, Nat.reducePow, exB, resC_ptr, res_cell, nilb, nilf, faddr_p, c_law04_RoundBetween, h1, hK]) | (simp (maxSteps := 1000000) (disch := first | with_reducible assumption | omega) only [wrap_i64, iaddr_D, rd_iptr, toNat_sub_one, toNat_add_one, sl_hi, sl_lo, iaddr_own, kM_new, sub_cells, setO_cells, sub_pre, ct_fz1, dec_t, dec_f, bv_t, bv_f, tmod_nn, tdiv_nn, bin_shl, bin_shr]) | (simp only [kI_d, kG_dt, kG_df]; split) | (simp only [kI_v, kG_vt, kG_vf]; split))
  · rw [decide_eq_false hlong] at h1
    have o1 := law04_opens1 (G := G) (T := T) hB hC hD hE (f := f) (m := m) (n := n) (z := z) hl (e := e)
    by_cases hop : op0 f m = 0
    · have hfm : (f = 1 ∨ f = 2) ∧ 1 ≤ m ∧ m ≤ 5 := by
        unfold op0 at hop
        by_cases a : f = 1 ∨ f = 2
        · rw [if_neg (not_not_intro a)] at hop
          by_cases b : 1 ≤ m ∧ m ≤ 5
          · exact ⟨a, b⟩
          · rw [if_pos b] at hop; cases hop
        · rw [if_pos a] at hop; cases hop
      obtain ⟨a, b⟩ := hfm
      obtain ⟨F, rfl⟩ := fm_of a
      rw [if_pos hop] at o1
      by_cases hm : mayD n l e = true
      · rw [hm, if_pos rfl] at o1
        have hnm := (mayL_iff.1 (mayD_facts hm).1).2
        obtain ⟨M, rfl⟩ : ∃ M, l = dl M := ⟨val l, (dl_val hl hnm).symm⟩
        have s1 := ref02_Sign (G := G) (T := T) hC (z := z) (d := ⟨n, M, e⟩)
        by_cases h0 : M = 0
        · rw [show sgnD ⟨n, M, e⟩ = 0 by simp [sgnD, h0]] at s1
          simp only [DyA, A3] at *
          repeat' (first | (simp (maxSteps := 1000000) only [evB, if_true, if_false, ne_eq, Nat.reduceEqDiff, Nat.reduceAdd, reduceCtorEq, Int.reduceLE, Int.reduceLT, Int.reduceEq, Int.reduceNeg, Int.reduceToNat, Int.reducePow, Int.reduceMod, Int.reduceDiv, Int.reduceSub, Int.reduceAdd, Int.reduceMul, Nat.reduceMul, Nat.reduceSub, Nat.reducePow, exB, resC_ptr, res_cell, nilb, nilf, faddr_p, c_law04_RoundBetween, h1, hK, o1, s1]) | (simp (maxSteps := 1000000) (disch := first | with_reducible assumption | omega) only [wrap_i64, iaddr_D, rd_iptr, toNat_sub_one, toNat_add_one, sl_hi, sl_lo, iaddr_own, kM_new, sub_cells, setO_cells, sub_pre, ct_fz1, dec_t, dec_f, bv_t, bv_f, tmod_nn, tdiv_nn, bin_shl, bin_shr]) | (simp only [kI_d, kG_dt, kG_df]; split) | (simp only [kI_v, kG_vt, kG_vf]; split))
        · have hs : ¬ sgnD ⟨n, M, e⟩ = 0 := by simp only [sgnD, if_neg h0]; split <;> decide
          have hb := may_blen (mayD_facts hm).1
          have he := (mayD_facts hm).2.2.2
          have bd : Bd ⟨n, M, e⟩ 34359738368 := ⟨by simp only; omega, by simp only; omega, by simp only; omega⟩
          have r5 := round_Round (G := G) (T := T) hA hC hG hD hE F (m := 5) (by decide) (z := z) (d := ⟨n, M, e⟩) hm
          have r4 := round_Round (G := G) (T := T) hA hC hG hD hE F (m := 4) (by decide) (z := z) (d := ⟨n, M, e⟩) hm
          have r3 := round_Round (G := G) (T := T) hA hC hG hD hE F (m := 3) (by decide) (z := z) (d := ⟨n, M, e⟩) hm
          have r := round_Round (G := G) (T := T) hA hC hG hD hE F b (z := z) (d := ⟨n, M, e⟩) hm
          have B := between F b.1 b.2 (d := ⟨n, M, e⟩) h0
          have hi := fm_i0 F
          obtain ⟨t5, u5, w5⟩ := B.ws 5 (by decide) (by decide)
          obtain ⟨t4, u4, w4⟩ := B.ws 4 (by decide) (by decide)
          have l5 := word_lt n u5
          have l4 := word_lt n u4
          have c5 := (cls_size n u5).2.2
          rw [← show (rndW F 5 ⟨n, M, e⟩).1 = t5 + F.sgn n from w5] at l5 c5
          rw [← show (rndW F 4 ⟨n, M, e⟩).1 = t4 + F.sgn n from w4] at l4
          clear w5 w4 u5 u4
          have hun : run G T 146 [.int .u8 F.u, .int .u64 ((rndW F 5 ⟨n, M, e⟩).1 : Int), DyA z ⟨n, M, e⟩] = some (.bool true) := by
            rcases B.under with ⟨q1, q2⟩ | ⟨q1, q2⟩
            · rw [law04_under_inf (G := G) (T := T) hD hT F (by omega) q1 (box_x 3 _ ▸ by simp [DyA, A3, ca_agg, okN_cons, okN_nil, okc_int, okc_bool, okc_D]), decide_eq_true q2]
            · rw [law04_under (G := G) (T := T) hA hB hC hD hT F (by omega) q1 bd, decide_eq_true q2]
          have hov : run G T 147 [.int .u8 F.u, .int .u64 ((rndW F 4 ⟨n, M, e⟩).1 : Int), DyA z ⟨n, M, e⟩] = some (.bool true) := by
            rcases B.over with ⟨q1, q2⟩ | ⟨q1, q2⟩
            · rw [law04_over_inf (G := G) (T := T) hD hT F (by omega) q1 (box_x 3 _ ▸ by simp [DyA, A3, ca_agg, okN_cons, okN_nil, okc_int, okc_bool, okc_D]), decide_eq_true q2]
            · rw [law04_over (G := G) (T := T) hA hB hC hD hT F (by omega) q1 bd, decide_eq_true q2]
          have up := ref03_Up (G := G) (T := T) hD hT F (w := (rndW F 5 ⟨n, M, e⟩).1) l5 c5
          have sg := ref03_Sign (G := G) (T := T) hD F
          have sd := ref03_Signed (G := G) (T := T) hD F (n := true) (w := 0)
          have hsd : 0 % F.sg + F.sgn true = F.sg := by rw [Nat.zero_mod]; simp [Fm.sgn]
          rw [hsd, cast0] at sd
          have B1 := B.same
          have B2 := B.step
          have B5 := B.flag 5 (by decide) (by decide)
          have B4 := B.flag 4 (by decide) (by decide)
          have Bm := B.flag m b.1 b.2
          have B3 := B.one
          have hsg : 0 < F.sg := hi.2.2.1
          have hmod : ((rndW F 5 ⟨n, M, e⟩).1 : Int) % (F.sg : Int) = (((rndW F 5 ⟨n, M, e⟩).1 % F.sg : Nat) : Int) := by omega
          have hsg2 := hi.2.2.2.1
          clear B bd hi hl hnm he hb c5
          generalize rndW F 5 ⟨n, M, e⟩ = p5 at *
          generalize rndW F 4 ⟨n, M, e⟩ = p4 at *
          generalize rndW F 3 ⟨n, M, e⟩ = p3 at *
          generalize rndW F m ⟨n, M, e⟩ = p at *
          obtain ⟨lo, x5⟩ := p5
          obtain ⟨hi, x4⟩ := p4
          obtain ⟨zz, x3⟩ := p3
          obtain ⟨w, x⟩ := p
          simp only at *
          by_cases heq : lo = hi
          · obtain ⟨z5, z4, zm, e1, e2⟩ := B1 heq
            subst heq z5 z4 zm e1 e2
            clear B1 B2 B3 B4 B5 Bm
            simp only [DyA, A3, cast0] at *
            repeat' (first | (simp (maxSteps := 1000000) only [evB, if_true, if_false, ne_eq, Nat.reduceEqDiff, Nat.reduceAdd, reduceCtorEq, Int.reduceLE, Int.reduceLT, Int.reduceEq, Int.reduceNeg, Int.reduceToNat, Int.reducePow, Int.reduceMod, Int.reduceDiv, Int.reduceSub, Int.reduceAdd, Int.reduceMul, Nat.reduceMul, Nat.reduceSub, Nat.reducePow, exB, resC_ptr, res_cell, nilb, nilf, faddr_p, c_law04_RoundBetween, h1, hK, o1, s1, hs, r5, r4, r3, r, hun, hov]) | (simp (maxSteps := 1000000) (disch := first | with_reducible assumption | omega) only [wrap_i64, iaddr_D, rd_iptr, toNat_sub_one, toNat_add_one, sl_hi, sl_lo, iaddr_own, kM_new, sub_cells, setO_cells, sub_pre, ct_fz1, dec_t, dec_f, bv_t, bv_f, tmod_nn, tdiv_nn, bin_shl, bin_shr]) | (simp only [kI_d, kG_dt, kG_df]; split) | (simp only [kI_v, kG_vt, kG_vf]; split))
          · obtain ⟨st, nz⟩ := B2 heq
            obtain ⟨wo, zl, zh⟩ := B3 heq
            have a5 := and16 (B5 heq)
            have a4 := and16 (B4 heq)
            have am := and16 (Bm heq)
            clear B1 B2 B3 B4 B5 Bm
            have heqi : ¬ (lo : Int) = (hi : Int) := by omega
            by_cases hz : lo % F.sg = 0
            · rw [if_pos hz] at st
              have hz1 : (lo : Int) % (F.sg : Int) = 0 := by rw [hmod, hz]; rfl
              have hh : hi = 1 := by cases st; rfl
              subst hh
              clear st hmod
              rw [show ((1 : Nat) : Int) = 1 from rfl] at *
              cases n
              · have := zl.2 rfl
                subst this
                clear zl zh
                simp only [DyA, A3] at *
                repeat' (first | (simp (maxSteps := 1000000) only [evB, if_true, if_false, ne_eq, Nat.reduceEqDiff, Nat.reduceAdd, reduceCtorEq, Int.reduceLE, Int.reduceLT, Int.reduceEq, Int.reduceNeg, Int.reduceToNat, Int.reducePow, Int.reduceMod, Int.reduceDiv, Int.reduceSub, Int.reduceAdd, Int.reduceMul, Nat.reduceMul, Nat.reduceSub, Nat.reducePow, exB, resC_ptr, res_cell, nilb, nilf, faddr_p, c_law04_RoundBetween, h1, hK, o1, s1, hs, r5, r4, r3, r, hun, hov, up, sg, hz1, sd, a5, a4, am, heqi ]) | (simp (maxSteps := 1000000) (disch := first | with_reducible assumption | omega) only [wrap_i64, iaddr_D, rd_iptr, toNat_sub_one, toNat_add_one, sl_hi, sl_lo, iaddr_own, kM_new, sub_cells, setO_cells, sub_pre, ct_fz1, dec_t, dec_f, bv_t, bv_f, tmod_nn, tdiv_nn, bin_shl, bin_shr,  bin_rem]) | (simp only [kI_d, kG_dt, kG_df]; split) | (simp only [kI_v, kG_vt, kG_vf]; split))
              · have := zh.2 rfl
                subst this
                clear zl zh
                simp only [DyA, A3] at *
                repeat' (first | (simp (maxSteps := 1000000) only [evB, if_true, if_false, ne_eq, Nat.reduceEqDiff, Nat.reduceAdd, reduceCtorEq, Int.reduceLE, Int.reduceLT, Int.reduceEq, Int.reduceNeg, Int.reduceToNat, Int.reducePow, Int.reduceMod, Int.reduceDiv, Int.reduceSub, Int.reduceAdd, Int.reduceMul, Nat.reduceMul, Nat.reduceSub, Nat.reducePow, exB, resC_ptr, res_cell, nilb, nilf, faddr_p, c_law04_RoundBetween, h1, hK, o1, s1, hs, r5, r4, r3, r, hun, hov, up, sg, hz1, sd, a5, a4, am, heqi ]) | (simp (maxSteps := 1000000) (disch := first | with_reducible assumption | omega) only [wrap_i64, iaddr_D, rd_iptr, toNat_sub_one, toNat_add_one, sl_hi, sl_lo, iaddr_own, kM_new, sub_cells, setO_cells, sub_pre, ct_fz1, dec_t, dec_f, bv_t, bv_f, tmod_nn, tdiv_nn, bin_shl, bin_shr,  bin_rem]) | (simp only [kI_d, kG_dt, kG_df]; split) | (simp only [kI_v, kG_vt, kG_vf]; split))
            · rw [if_neg hz] at st
              have hz1 : ¬ (lo : Int) % (F.sg : Int) = 0 := by rw [hmod]; omega
              rw [st] at up
              clear st hmod
              cases n
              · have := zl.2 rfl
                subst this
                clear zl zh
                simp only [DyA, A3] at *
                repeat' (first | (simp (maxSteps := 1000000) only [evB, if_true, if_false, ne_eq, Nat.reduceEqDiff, Nat.reduceAdd, reduceCtorEq, Int.reduceLE, Int.reduceLT, Int.reduceEq, Int.reduceNeg, Int.reduceToNat, Int.reducePow, Int.reduceMod, Int.reduceDiv, Int.reduceSub, Int.reduceAdd, Int.reduceMul, Nat.reduceMul, Nat.reduceSub, Nat.reducePow, exB, resC_ptr, res_cell, nilb, nilf, faddr_p, c_law04_RoundBetween, h1, hK, o1, s1, hs, r5, r4, r3, r, hun, hov, up, sg, hz1, sd, a5, a4, am, heqi ]) | (simp (maxSteps := 1000000) (disch := first | with_reducible assumption | omega) only [wrap_i64, iaddr_D, rd_iptr, toNat_sub_one, toNat_add_one, sl_hi, sl_lo, iaddr_own, kM_new, sub_cells, setO_cells, sub_pre, ct_fz1, dec_t, dec_f, bv_t, bv_f, tmod_nn, tdiv_nn, bin_shl, bin_shr,  bin_rem]) | (simp only [kI_d, kG_dt, kG_df]; split) | (simp only [kI_v, kG_vt, kG_vf]; split))
              · have := zh.2 rfl
                subst this
                clear zl zh
                simp only [DyA, A3] at *
                repeat' (first | (simp (maxSteps := 1000000) only [evB, if_true, if_false, ne_eq, Nat.reduceEqDiff, Nat.reduceAdd, reduceCtorEq, Int.reduceLE, Int.reduceLT, Int.reduceEq, Int.reduceNeg, Int.reduceToNat, Int.reducePow, Int.reduceMod, Int.reduceDiv, Int.reduceSub, Int.reduceAdd, Int.reduceMul, Nat.reduceMul, Nat.reduceSub, Nat.reducePow, exB, resC_ptr, res_cell, nilb, nilf, faddr_p, c_law04_RoundBetween, h1, hK, o1, s1, hs, r5, r4, r3, r, hun, hov, up, sg, hz1, sd, a5, a4, am, heqi ]) | (simp (maxSteps := 1000000) (disch := first | with_reducible assumption | omega) only [wrap_i64, iaddr_D, rd_iptr, toNat_sub_one, toNat_add_one, sl_hi, sl_lo, iaddr_own, kM_new, sub_cells, setO_cells, sub_pre, ct_fz1, dec_t, dec_f, bv_t, bv_f, tmod_nn, tdiv_nn, bin_shl, bin_shr,  bin_rem]) | (simp only [kI_d, kG_dt, kG_df]; split) | (simp only [kI_v, kG_vt, kG_vf]; split))
      · have hm' : mayD n l e = false := by simpa using hm
        rw [hm', if_neg (by decide)] at o1
        simp only [A3] at *
        repeat' (first | (simp (maxSteps := 1000000) only [evB, if_true, if_false, ne_eq, Nat.reduceEqDiff, Nat.reduceAdd, reduceCtorEq, Int.reduceLE, Int.reduceLT, Int.reduceEq, Int.reduceNeg, Int.reduceToNat, Int.reducePow, Int.reduceMod, Int.reduceDiv, Int.reduceSub, Int.reduceAdd, Int.reduceMul, Nat.reduceMul, Nat.reduceSub, Nat.reducePow, exB, resC_ptr, res_cell, nilb, nilf, faddr_p, c_law04_RoundBetween, h1, hK, o1]) | (simp (maxSteps := 1000000) (disch := first | with_reducible assumption | omega) only [wrap_i64, iaddr_D, rd_iptr, toNat_sub_one, toNat_add_one, sl_hi, sl_lo, iaddr_own, kM_new, sub_cells, setO_cells, sub_pre, ct_fz1, dec_t, dec_f, bv_t, bv_f, tmod_nn, tdiv_nn, bin_shl, bin_shr]) | (simp only [kI_d, kG_dt, kG_df]; split) | (simp only [kI_v, kG_vt, kG_vf]; split))
    · rw [if_neg hop] at o1
      simp only [A3] at *
      repeat' (first | (simp (maxSteps := 1000000) only [evB, if_true, if_false, ne_eq, Nat.reduceEqDiff, Nat.reduceAdd, reduceCtorEq, Int.reduceLE, Int.reduceLT, Int.reduceEq, Int.reduceNeg, Int.reduceToNat, Int.reducePow, Int.reduceMod, Int.reduceDiv, Int.reduceSub, Int.reduceAdd, Int.reduceMul, Nat.reduceMul, Nat.reduceSub, Nat.reducePow, exB, resC_ptr, res_cell, nilb, nilf, faddr_p, c_law04_RoundBetween, h1, hK, o1]) | (simp (maxSteps := 1000000) (disch := first | with_reducible assumption | omega) only [wrap_i64, iaddr_D, rd_iptr, toNat_sub_one, toNat_add_one, sl_hi, sl_lo, iaddr_own, kM_new, sub_cells, setO_cells, sub_pre, ct_fz1, dec_t, dec_f, bv_t, bv_f, tmod_nn, tdiv_nn, bin_shl, bin_shr]) | (simp only [kI_d, kG_dt, kG_df]; split) | (simp only [kI_v, kG_vt, kG_vf]; split))
end Go.Cv
