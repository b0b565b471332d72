/-
  A part of the proof of the statements of this seat (texts that the law's own text leans on): no condition.
-/
import Derived.Test.YthhmfdmdhbbehaaDoorM6
set_option linter.unusedVariables false
set_option linter.unusedSimpArgs false
/-
  What rounding tells, as words: the shape of all answers.
-/
namespace Go.Cv

/-- What stands for a size that is too great. -/
def ovs (F : Fm) (md : Int) (neg : Bool) : Nat := if md = 3 ∨ (md = 4 ∧ neg = true) ∨ (md = 5 ∧ neg = false) then F.i0 - 1 else F.i0
theorem ovr_eq (F : Fm) (md : Int) (neg : Bool) : ovr F md neg = ovs F md neg + F.sgn neg := by
  have := fm_i0 F
  unfold ovr ovs
  rw [inf_eq]
  split <;> omega

/-- All that rounding tells of a number that is not nought: e0 is the word's size below it. -/
structure Shp (F : Fm) (d : Dy) (L : Int) (A U W e0 : Nat) (u : Int) (ex : Bool) : Prop where
  hL : L < F.low ∧ L < d.e ∧ L < u
  hA : A = d.m * 2 ^ (d.e - L).toNat
  hU : U = 2 ^ (u - L).toNat
  lou : F.low ≤ u
  he0 : e0 = F.enc W u
  wb : W ≤ 2 ^ (F.fr + 1) ∧ (ex = false → W + 1 ≤ 2 ^ (F.fr + 1))
  wc : u = F.low ∨ 2 ^ F.fr ≤ W
  all : ∀ md : Int, 1 ≤ md → md ≤ 5 → ∃ b fl, rndW F md d = ((if F.i0 ≤ e0 + b.toNat then ovs F md d.n else e0 + b.toNat) + F.sgn d.n, if F.i0 ≤ e0 + b.toNat then 20 else if ex then 0 else fl) ∧
    (fl = 16 ∨ fl = 24) ∧ Rd md d.n A U W ex b

theorem shp_of (F : Fm) {d : Dy} (h0 : d.m ≠ 0) {L : Int} (l1 : L < F.low) (l2 : L < d.e) : ∃ A U W e0 u ex, Shp F d L A U W e0 u ex ∧ u = F.eOf (d.e + blen d.m) := by
  have hu : F.low ≤ F.eOf (d.e + blen d.m) := by unfold Fm.eOf; omega
  refine ⟨_, _, d.m * 2 ^ (d.e - L).toNat / 2 ^ (F.eOf (d.e + blen d.m) - L).toNat, _, F.eOf (d.e + blen d.m), decide (d.m * 2 ^ (d.e - L).toNat % 2 ^ (F.eOf (d.e + blen d.m) - L).toNat = 0), ⟨⟨l1, l2, by omega⟩, rfl, rfl, hu, rfl, ?_, ?_, ?_⟩, rfl⟩
  · obtain ⟨b, e1, R⟩ := rnd_Rd 3 d.n d.m (E := d.e) (u := F.eOf (d.e + blen d.m)) (L := L) (by omega) (by omega)
    have q := (rnd_bd F (md := 3) h0).1
    rw [e1, R.b3 rfl] at q
    refine ⟨by simpa using q, fun hx => ?_⟩
    cases hn : d.n
    · obtain ⟨b, e1, R⟩ := rnd_Rd 4 d.n d.m (E := d.e) (u := F.eOf (d.e + blen d.m)) (L := L) (by omega) (by omega)
      have q := (rnd_bd F (md := 4) h0).1
      rw [e1, R.b4 rfl, hx, hn] at q
      simpa using q
    · obtain ⟨b, e1, R⟩ := rnd_Rd 5 d.n d.m (E := d.e) (u := F.eOf (d.e + blen d.m)) (L := L) (by omega) (by omega)
      have q := (rnd_bd F (md := 5) h0).1
      rw [e1, R.b5 rfl, hx, hn] at q
      simpa using q
  · obtain ⟨b, e1, R⟩ := rnd_Rd 3 d.n d.m (E := d.e) (u := F.eOf (d.e + blen d.m)) (L := L) (by omega) (by omega)
    have q := (rnd_bd F (md := 3) h0).2.1
    rw [e1, R.b3 rfl] at q
    simpa using q
  · intro md m1 m2
    obtain ⟨b, e1, R⟩ := rnd_Rd md d.n d.m (E := d.e) (u := F.eOf (d.e + blen d.m)) (L := L) (by omega) (by omega)
    obtain ⟨q1, q2, _, _⟩ := rnd_bd F (md := md) h0
    have hb := enc_big F q1 hu q2
    have hs : rndW F md d = wordOf F md d.n (rnd md d.n d.m d.e (F.eOf (d.e + blen d.m))).1 (rnd md d.n d.m d.e (F.eOf (d.e + blen d.m))).2 (F.eOf (d.e + blen d.m)) (d.e + blen d.m) (rnd md d.n d.m d.e (d.e + blen d.m - F.fr - 1)).1 := by
      simp only [rndW, if_neg h0]
    have he : F.enc (rnd md d.n d.m d.e (F.eOf (d.e + blen d.m))).1 (F.eOf (d.e + blen d.m)) = F.enc (d.m * 2 ^ (d.e - L).toNat / 2 ^ (F.eOf (d.e + blen d.m) - L).toNat) (F.eOf (d.e + blen d.m)) + b.toNat := by
      rw [e1]; unfold Fm.enc; simp only; omega
    rw [he] at hb
    refine ⟨b, if blen (rnd md d.n d.m d.e (d.e + blen d.m - F.fr - 1)).1 + (d.e + blen d.m - F.fr - 1) < F.low + F.fr + 1 then 24 else 16, ?_, by split <;> simp, R⟩
    rw [hs]
    unfold wordOf
    rw [he]
    by_cases hv : F.wide < blen (rnd md d.n d.m d.e (F.eOf (d.e + blen d.m))).1 + F.eOf (d.e + blen d.m)
    · rw [if_pos hv, if_pos (hb.1 hv), if_pos (hb.1 hv), ovr_eq]
    · have hv' := fun h => hv (hb.2 h)
      rw [if_neg hv, if_neg hv', if_neg hv']
      congr 1
      rw [e1]

/-! ### the words that stand for sizes -/
theorem iv_val_L {F : Fm} {s : Nat} (n : Bool) (h : s < F.i0) {L : Int} (hL : L ≤ F.low) : iv (F.val (s + F.sgn n)) L = (if n then -1 else 1) * ((magN F s * 2 ^ (F.low - L).toNat : Nat) : Int) ∧ LoE (F.val (s + F.sgn n)) L := by
  obtain ⟨h1, h2, _⟩ := iv_val n h
  refine ⟨?_, h2.mono hL⟩
  rw [iv_scale h2 hL, h1, Int.mul_assoc, ← Int.natCast_mul]
theorem iv_num {d : Dy} {L : Int} : iv d L = (if d.n then -1 else 1) * ((d.m * 2 ^ (d.e - L).toNat : Nat) : Int) := rfl

section
variable {F : Fm} {d : Dy} {L : Int} {A U W e0 : Nat} {u : Int} {ex : Bool}
theorem Shp.worth (S : Shp F d L A U W e0 u ex) : magN F e0 * 2 ^ (F.low - L).toNat = W * U := by
  rw [S.he0, magN_enc F S.wb.1 S.lou S.wc, S.hU, Nat.mul_assoc, ← Nat.pow_add]
  have := S.hL; have := S.lou
  rw [show (u - F.low).toNat + (F.low - L).toNat = (u - L).toNat by omega]
theorem Shp.worth1 (S : Shp F d L A U W e0 u ex) (hx : ex = false) : magN F (e0 + 1) * 2 ^ (F.low - L).toNat = (W + 1) * U := by
  rw [S.he0, ← enc_succ, magN_enc F (S.wb.2 hx) S.lou (S.wc.imp id fun h => by omega), S.hU, Nat.mul_assoc, ← Nat.pow_add]
  have := S.hL; have := S.lou
  rw [show (u - F.low).toNat + (F.low - L).toNat = (u - L).toNat by omega]
/-- A word of a size below the infinite one, and a number: which is greater. -/
theorem cmp_size {s : Nat} (n : Bool) (h : s < F.i0) (hL : L ≤ F.low) (hd : LoE d L) : cmpD (F.val (s + F.sgn n)) d = sgI ((if n then -1 else 1) * ((magN F s * 2 ^ (F.low - L).toNat : Nat) : Int) - iv d L) := by
  obtain ⟨h1, h2⟩ := iv_val_L n h hL
  rw [cmp_iv h2 hd, h1]
end
end Go.Cv

/-
  Any number lies between the words to which it is rounded down and up.
-/
namespace Go.Cv

theorem cls_size {F : Fm} {s : Nat} (n : Bool) (h : s ≤ F.i0) : (F.cls (s + F.sgn n) = 1 ↔ s = 0) ∧ (F.cls (s + F.sgn n) = 4 ↔ s = F.i0) ∧ F.cls (s + F.sgn n) ≠ 5 := by
  have hi := fm_i0 F
  obtain ⟨e1, e2⟩ := sgn_mod n (by omega : s < F.sg)
  unfold Fm.cls Fm.ex Fm.fc
  rw [e1]
  unfold Fm.i0 at *
  have hp := Nat.two_pow_pos F.fr
  have hm : 1 < F.most := by cases F <;> decide
  generalize F.most = K at *
  generalize 2 ^ F.fr = P at *
  have hd := Nat.div_add_mod s P
  have hml := Nat.mod_lt s hp
  have h3 : s / P ≤ K := by
    apply Nat.div_le_of_le_mul; rw [Nat.mul_comm]; exact h
  have h4 : s / P = K → s % P = 0 := by
    intro hk; rw [hk, Nat.mul_comm] at hd; omega
  have h5 : s / P = 0 → s = s % P := by intro hk; rw [hk, Nat.mul_zero] at hd; omega
  have h6 : s / P = K ↔ s = K * P := by
    constructor
    · intro hk; have := h4 hk; rw [hk, this, Nat.mul_comm] at hd; omega
    · intro hk; rw [hk, Nat.mul_div_cancel _ hp]
  have h7 : K * P ≠ 0 := by have := Nat.mul_pos (by omega : 0 < K) hp; omega
  have h8 : s = 0 → s / P = 0 := by rintro rfl; exact Nat.zero_div _
  generalize s / P = x at *
  generalize s % P = y at *
  generalize K * P = KP at *
  clear hd
  refine ⟨?_, ?_, ?_⟩ <;> (repeat' split) <;> omega

/-- What the law on 'between' asks of the words. -/
structure Betw (F : Fm) (md : Int) (d : Dy) : Prop where
  ws : ∀ m : Int, 1 ≤ m → m ≤ 5 → ∃ s : Nat, s ≤ F.i0 ∧ (rndW F m d).1 = s + F.sgn d.n
  under : (F.cls (rndW F 5 d).1 = 4 ∧ (rndW F 5 d).1 = F.inf true) ∨ (F.fin (rndW F 5 d).1 ∧ cmpD (F.val (rndW F 5 d).1) d ≤ 0)
  over : (F.cls (rndW F 4 d).1 = 4 ∧ (rndW F 4 d).1 = F.inf false) ∨ (F.fin (rndW F 4 d).1 ∧ 0 ≤ cmpD (F.val (rndW F 4 d).1) d)
  same : (rndW F 5 d).1 = (rndW F 4 d).1 → (rndW F 5 d).2 = 0 ∧ (rndW F 4 d).2 = 0 ∧ (rndW F md d).2 = 0 ∧ (rndW F md d).1 = (rndW F 5 d).1 ∧ (rndW F 3 d).1 = (rndW F 5 d).1
  step : (rndW F 5 d).1 ≠ (rndW F 4 d).1 → (if (rndW F 5 d).1 % F.sg = 0 then (1, true) else F.up (rndW F 5 d).1) = ((rndW F 4 d).1, true) ∧ ¬ ((rndW F 4 d).1 = F.sg ∧ (rndW F 4 d).1 = 0)
  flag : ∀ m : Int, 1 ≤ m → m ≤ 5 → (rndW F 5 d).1 ≠ (rndW F 4 d).1 → (rndW F m d).2 = 16 ∨ (rndW F m d).2 = 20 ∨ (rndW F m d).2 = 24
  one : (rndW F 5 d).1 ≠ (rndW F 4 d).1 → ((rndW F md d).1 = (rndW F 5 d).1 ∨ (rndW F md d).1 = (rndW F 4 d).1) ∧ ((rndW F 3 d).1 = (rndW F 5 d).1 ↔ d.n = false) ∧ ((rndW F 3 d).1 = (rndW F 4 d).1 ↔ d.n = true)

theorem up_pos {F : Fm} {x : Nat} (h : x < F.i0) : (if x % F.sg = 0 then (1, true) else F.up x) = (x + 1, true) := by
  have hi := fm_i0 F
  obtain ⟨c1, c2, c3⟩ := cls_size (F := F) false (Nat.le_of_lt h)
  obtain ⟨e1, e2⟩ := sgn_mod (F := F) false (by omega : x < F.sg)
  simp only [Fm.sgn, Bool.false_eq_true, if_false, Nat.add_zero] at c1 c2 c3 e1 e2
  rw [e1]
  by_cases h0 : x = 0
  · rw [if_pos h0, h0]
  · rw [if_neg h0]
    unfold Fm.up
    rw [if_neg (fun q => by have := c2.1 q.1; omega), if_neg (fun q => h0 (c1.1 q)), e2]
    rfl
theorem up_neg {F : Fm} {x : Nat} (h : x < F.i0) : (if (x + 1 + F.sg) % F.sg = 0 then (1, true) else F.up (x + 1 + F.sg)) = (x + F.sg, true) := by
  have hi := fm_i0 F
  obtain ⟨c1, c2, c3⟩ := cls_size (F := F) (s := x + 1) true (by omega)
  obtain ⟨e1, e2⟩ := sgn_mod (F := F) (s := x + 1) true (by omega)
  simp only [Fm.sgn, if_true] at c1 c2 c3 e1 e2
  rw [e1, if_neg (by omega)]
  unfold Fm.up
  rw [if_neg (fun q => by rw [e2] at q; exact absurd q.2 (by decide)), if_neg (fun q => by have := c1.1 q; omega), e2, if_pos rfl]
  congr 1; omega

section
variable {F : Fm} {md : Int} {d : Dy} {L : Int} {A : Nat}
theorem betw_pos (hL : L ≤ F.low) (hle : LoE d L) (hd : iv d L = A) (hn : d.n = false) {x : Nat} (hx : x < F.i0)
    (hws : ∀ m : Int, 1 ≤ m → m ≤ 5 → ∃ s : Nat, s ≤ F.i0 ∧ (rndW F m d).1 = s + F.sgn d.n)
    (E5 : (rndW F 5 d).1 = x) (E4 : (rndW F 4 d).1 = x + 1) (E3 : (rndW F 3 d).1 = x) (E : (rndW F md d).1 = x ∨ (rndW F md d).1 = x + 1)
    (hf : ∀ m : Int, 1 ≤ m → m ≤ 5 → (rndW F m d).2 = 16 ∨ (rndW F m d).2 = 20 ∨ (rndW F m d).2 = 24)
    (h1 : magN F x * 2 ^ (F.low - L).toNat ≤ A) (h2 : x + 1 < F.i0 → A ≤ magN F (x + 1) * 2 ^ (F.low - L).toNat) : Betw F md d := by
  have hi := fm_i0 F
  have s0 : F.sgn false = 0 := rfl
  refine ⟨hws, ?_, ?_, fun h => ?_, fun _ => ?_, fun m a b _ => hf m a b, fun _ => ?_⟩
  · right
    have c := cmp_size (F := F) (s := x) false hx hL hle
    have fz := fin_size (F := F) (s := x) false hx
    rw [s0, Nat.add_zero] at c fz
    rw [E5]
    refine ⟨fz, ?_⟩
    rw [c, hd]
    have : ¬ 0 < sgI ((if false = true then -1 else 1) * ((magN F x * 2 ^ (F.low - L).toNat : Nat) : Int) - (A : Int)) := by
      rw [sgI_pos]; simp only [Bool.false_eq_true, if_false]; omega
    omega
  · rw [E4]
    by_cases h3 : x + 1 < F.i0
    · right
      have c := cmp_size (F := F) (s := x + 1) false h3 hL hle
      have fz := fin_size (F := F) (s := x + 1) false h3
      rw [s0, Nat.add_zero] at c fz
      refine ⟨fz, ?_⟩
      rw [c, hd]
      have := h2 h3
      have : ¬ sgI ((if false = true then -1 else 1) * ((magN F (x + 1) * 2 ^ (F.low - L).toNat : Nat) : Int) - (A : Int)) < 0 := by
        rw [sgI_neg]; simp only [Bool.false_eq_true, if_false]; omega
      omega
    · left
      have e : x + 1 = F.inf false := by rw [inf_eq, s0]; omega
      rw [e]; exact ⟨cls_inf F false, rfl⟩
  · rw [E5, E4] at h; omega
  · rw [E5, E4]; exact ⟨up_pos hx, by omega⟩
  · rw [E5, E4, E3, hn]
    refine ⟨E, ⟨fun _ => rfl, fun _ => rfl⟩, ⟨fun h => by omega, fun h => by cases h⟩⟩

theorem betw_neg (hL : L ≤ F.low) (hle : LoE d L) (hd : iv d L = -(A : Int)) (hn : d.n = true) {x : Nat} (hx : x < F.i0)
    (hws : ∀ m : Int, 1 ≤ m → m ≤ 5 → ∃ s : Nat, s ≤ F.i0 ∧ (rndW F m d).1 = s + F.sgn d.n)
    (E5 : (rndW F 5 d).1 = x + 1 + F.sg) (E4 : (rndW F 4 d).1 = x + F.sg) (E3 : (rndW F 3 d).1 = x + F.sg) (E : (rndW F md d).1 = x + F.sg ∨ (rndW F md d).1 = x + 1 + F.sg)
    (hf : ∀ m : Int, 1 ≤ m → m ≤ 5 → (rndW F m d).2 = 16 ∨ (rndW F m d).2 = 20 ∨ (rndW F m d).2 = 24)
    (h1 : magN F x * 2 ^ (F.low - L).toNat ≤ A) (h2 : x + 1 < F.i0 → A ≤ magN F (x + 1) * 2 ^ (F.low - L).toNat) : Betw F md d := by
  have hi := fm_i0 F
  have s0 : F.sgn true = F.sg := rfl
  refine ⟨hws, ?_, ?_, fun h => ?_, fun _ => ?_, fun m a b _ => hf m a b, fun _ => ?_⟩
  · rw [E5]
    by_cases h3 : x + 1 < F.i0
    · right
      have c := cmp_size (F := F) (s := x + 1) true h3 hL hle
      have fz := fin_size (F := F) (s := x + 1) true h3
      rw [s0] at c fz
      refine ⟨fz, ?_⟩
      rw [c, hd]
      have := h2 h3
      have : ¬ 0 < sgI ((if true = true then -1 else 1) * ((magN F (x + 1) * 2 ^ (F.low - L).toNat : Nat) : Int) - -(A : Int)) := by
        rw [sgI_pos]; simp only [if_true]; omega
      omega
    · left
      have e : x + 1 + F.sg = F.inf true := by rw [inf_eq, s0]; omega
      rw [e]; exact ⟨cls_inf F true, rfl⟩
  · right
    have c := cmp_size (F := F) (s := x) true hx hL hle
    have fz := fin_size (F := F) (s := x) true hx
    rw [s0] at c fz
    rw [E4]
    refine ⟨fz, ?_⟩
    rw [c, hd]
    have : ¬ sgI ((if true = true then -1 else 1) * ((magN F x * 2 ^ (F.low - L).toNat : Nat) : Int) - -(A : Int)) < 0 := by
      rw [sgI_neg]; simp only [if_true]; omega
    omega
  · rw [E5, E4] at h; omega
  · rw [E5, E4]; exact ⟨up_neg hx, by omega⟩
  · rw [E5, E4, E3, hn]
    refine ⟨E.symm, ⟨fun h => by omega, fun h => by cases h⟩, ⟨fun _ => rfl, fun _ => rfl⟩⟩

theorem betw_eq (hL : L ≤ F.low) (hle : LoE d L) (hd : iv d L = (if d.n then -1 else 1) * (A : Int)) {x : Nat} (hx : x < F.i0)
    (hws : ∀ m : Int, 1 ≤ m → m ≤ 5 → ∃ s : Nat, s ≤ F.i0 ∧ (rndW F m d).1 = s + F.sgn d.n)
    (E5 : rndW F 5 d = (x + F.sgn d.n, 0)) (E4 : rndW F 4 d = (x + F.sgn d.n, 0)) (E3 : rndW F 3 d = (x + F.sgn d.n, 0)) (E : rndW F md d = (x + F.sgn d.n, 0))
    (h1 : magN F x * 2 ^ (F.low - L).toNat = A) : Betw F md d := by
  have c := cmp_size (F := F) (s := x) d.n hx hL hle
  have fz := fin_size (F := F) (s := x) d.n hx
  rw [h1, hd, Int.sub_self] at c
  refine ⟨hws, ?_, ?_, fun h => ?_, fun h => ?_, fun m a b h => ?_, fun h => ?_⟩
  · rw [E5]; right; exact ⟨fz, by rw [c]; decide⟩
  · rw [E4]; right; exact ⟨fz, by rw [c]; decide⟩
  · rw [E5, E4, E3, E]; exact ⟨rfl, rfl, rfl, rfl, rfl⟩
  · rw [E5, E4] at h; exact absurd rfl h
  · rw [E5, E4] at h; exact absurd rfl h
  · rw [E5, E4] at h; exact absurd rfl h
end

theorem between (F : Fm) {md : Int} (m1 : 1 ≤ md) (m2 : md ≤ 5) {d : Dy} (h0 : d.m ≠ 0) : Betw F md d := by
  have hi := fm_i0 F
  obtain ⟨L, l1, l2⟩ : ∃ L : Int, L < F.low ∧ L < d.e := ⟨min F.low d.e - 1, by omega, by omega⟩
  obtain ⟨A, U, W, e0, u, ex, S, _⟩ := shp_of F h0 l1 l2
  obtain ⟨b5, f5, r5, g5, R5⟩ := S.all 5 (by decide) (by decide)
  obtain ⟨b4, f4, r4, g4, R4⟩ := S.all 4 (by decide) (by decide)
  obtain ⟨b3, f3, r3, g3, R3⟩ := S.all 3 (by decide) (by decide)
  obtain ⟨b, f, r, g, R⟩ := S.all md m1 m2
  have x5 := R5.b5 rfl
  have x4 := R4.b4 rfl
  have x3 := R3.b3 rfl
  have hw := S.worth
  have hw1 := S.worth1
  have hlo := R.lo
  have hhi := R.hi
  have hex := R.exi
  have hd : iv d L = (if d.n then -1 else 1) * (A : Int) := by rw [iv_num, S.hA]
  have hle : LoE d L := Or.inr (by omega)
  have hbig : F.i0 ≤ e0 → magN F (F.i0 - 1) * 2 ^ (F.low - L).toNat ≤ A := fun h => Nat.le_trans (Nat.mul_le_mul_right _ (magN_le F (by omega : F.i0 - 1 ≤ e0))) (by rw [hw]; exact hlo)
  have hovs : ∀ m n, ovs F m n = F.i0 - 1 ∨ ovs F m n = F.i0 := fun m n => by unfold ovs; split <;> omega
  have hws : ∀ m : Int, 1 ≤ m → m ≤ 5 → ∃ s : Nat, s ≤ F.i0 ∧ (rndW F m d).1 = s + F.sgn d.n := fun m a1 a2 => by
    obtain ⟨b, f, r, _, _⟩ := S.all m a1 a2
    refine ⟨_, ?_, by rw [r]⟩
    split
    · have := hovs m d.n; omega
    · omega
  have hf : (F.i0 ≤ e0 ∨ ex = false) → ∀ m : Int, 1 ≤ m → m ≤ 5 → (rndW F m d).2 = 16 ∨ (rndW F m d).2 = 20 ∨ (rndW F m d).2 = 24 := fun h m a1 a2 => by
    obtain ⟨b, f, r, g, _⟩ := S.all m a1 a2
    rw [r]; simp only
    by_cases q : F.i0 ≤ e0 + b.toNat
    · rw [if_pos q]; exact Or.inr (Or.inl rfl)
    · rw [if_neg q]
      have : ex = false := h.resolve_left (by omega)
      rw [this]; simp only [Bool.false_eq_true, if_false]; omega
  by_cases hb : F.i0 ≤ e0
  · have t : ∀ b : Bool, F.i0 ≤ e0 + b.toNat := fun b => by omega
    rw [if_pos (t b5)] at r5
    rw [if_pos (t b4)] at r4
    rw [if_pos (t b3)] at r3
    rw [if_pos (t b)] at r
    cases hn : d.n
    · rw [hn] at r5 r4 r3 r hd
      have o5 : ovs F 5 false = F.i0 - 1 := by simp [ovs]
      have o4 : ovs F 4 false = F.i0 := by simp [ovs]
      have o3 : ovs F 3 false = F.i0 - 1 := by simp [ovs]
      refine betw_pos (x := F.i0 - 1) (by omega) hle (by rw [hd]; simp) hn (by omega) hws (by rw [r5, o5]; rfl) (by rw [r4, o4]; simp only [Fm.sgn, Bool.false_eq_true, if_false]; omega) (by rw [r3, o3]; rfl) ?_ (hf (Or.inl hb)) (hbig hb) (fun h => by omega)
      rw [r]; simp only [Fm.sgn, Bool.false_eq_true, if_false]
      have := hovs md false; omega
    · rw [hn] at r5 r4 r3 r hd
      have o5 : ovs F 5 true = F.i0 := by simp [ovs]
      have o4 : ovs F 4 true = F.i0 - 1 := by simp [ovs]
      have o3 : ovs F 3 true = F.i0 - 1 := by simp [ovs]
      refine betw_neg (x := F.i0 - 1) (by omega) hle (by rw [hd]; simp) hn (by omega) hws (by rw [r5, o5]; simp only [Fm.sgn, if_true]; omega) (by rw [r4, o4]; rfl) (by rw [r3, o3]; rfl) ?_ (hf (Or.inl hb)) (hbig hb) (fun h => by omega)
      rw [r]; simp only [Fm.sgn, if_true]
      have := hovs md true; omega
  · cases hx : ex
    · subst hx
      have hw1 := hw1 rfl
      have hup : A ≤ magN F (e0 + 1) * 2 ^ (F.low - L).toNat := by rw [hw1]; omega
      have hdn : magN F e0 * 2 ^ (F.low - L).toNat ≤ A := by rw [hw]; exact hlo
      cases hn : d.n
      · rw [hn] at r5 r4 r3 r hd x5 x4
        subst x5 x4 x3
        have o4 : ovs F 4 false = F.i0 := by simp [ovs]
        refine betw_pos (x := e0) (by omega) hle (by rw [hd]; simp) hn (by omega) hws (by rw [r5]; simp [hb, Fm.sgn]) ?_ (by rw [r3]; simp [hb, Fm.sgn]) ?_ (hf (Or.inr rfl)) hdn (fun _ => hup)
        · rw [r4]; simp only [o4, Bool.not_false, Bool.and_self, Bool.toNat_true, Fm.sgn, Bool.false_eq_true, if_false]; split <;> omega
        · rw [r]
          cases b
          · left; simp [hb, Fm.sgn]
          · right
            have m3 : md ≠ 3 := fun h => by have := R.b3 h; cases this
            have m5 : md ≠ 5 := fun h => by have := R.b5 h; rw [hn] at this; cases this
            have o : ovs F md false = F.i0 := by simp [ovs, m3, m5]
            simp only [o, Bool.toNat_true, Fm.sgn, Bool.false_eq_true, if_false]; split <;> omega
      · rw [hn] at r5 r4 r3 r hd x5 x4
        subst x5 x4 x3
        have o5 : ovs F 5 true = F.i0 := by simp [ovs]
        refine betw_neg (x := e0) (by omega) hle (by rw [hd]; simp) hn (by omega) hws ?_ (by rw [r4]; simp [hb, Fm.sgn]) (by rw [r3]; simp [hb, Fm.sgn]) ?_ (hf (Or.inr rfl)) hdn (fun _ => hup)
        · rw [r5]; simp only [o5, Bool.not_false, Bool.and_self, Bool.toNat_true, Fm.sgn, if_true]; split <;> omega
        · rw [r]
          cases b
          · left; simp [hb, Fm.sgn]
          · right
            have m3 : md ≠ 3 := fun h => by have := R.b3 h; cases this
            have m4 : md ≠ 4 := fun h => by have := R.b4 h; rw [hn] at this; cases this
            have o : ovs F md true = F.i0 := by simp [ovs, m3, m4]
            simp only [o, Bool.toNat_true, Fm.sgn, if_true]; split <;> omega
    · subst hx
      have y5 := R5.xb rfl
      have y4 := R4.xb rfl
      have y := R.xb rfl
      subst y5 y4 y x3
      refine betw_eq (x := e0) (by omega) hle hd (by omega) hws (by rw [r5]; simp [hb]) (by rw [r4]; simp [hb]) (by rw [r3]; simp [hb]) (by rw [r]; simp [hb]) ?_
      rw [hw]; exact (hex.1 rfl).symm
end Go.Cv

/-
  The statement on the words below and above a number.
-/
namespace Go.Cv
variable {G : Nat → Option (List AV)} {T : Tbl} {g : Nat}

theorem and16 {x : Nat} (h : x = 16 ∨ x = 20 ∨ x = 24) : andI .u8 (x : Int) 16 = 16 := by
  rw [andI_eq]; rcases h with rfl | rfl | rfl <;> rfl
theorem word_lt {F : Fm} {s : Nat} (n : Bool) (h : s ≤ F.i0) : s + F.sgn n < 2 * F.sg := by
  have := fm_i0 F
  unfold Fm.sgn; split <;> omega

set_option maxHeartbeats 4000000 in
theorem law04_RoundBetween (hA : HasA g T) (hB : HasB g T) (hC : HasC g T) (hG : Glob G g) (hD : HasD g T) (hE : HasE g T) (hT : HasF g T) (hK : run G T 5 [] = some (.bool true))
    {f m : Int} {n z : Bool} {l : List Nat} {e : Int} (hl : Dg l) :
    run G T 141 [.int .u8 f, .int .u8 m, A3 n (D z l) e] = some (.bool true) := by
  rw [run_k G T hT.law04_RoundBetween]
  have h1 := law04_long (G := G) (T := T) hE (n := n) (z := z) (l := l) (e := e)
  by_cases hlong : 300 < l.length
  · rw [decide_eq_true hlong] at h1
    simp only [A3] at *
    repeat' (first | (simp (maxSteps := 1000000) only [evB, if_true, if_false, ne_eq, Nat.reduceEqDiff, Nat.reduceAdd, reduceCtorEq, Int.reduceLE, Int.reduceLT, Int.reduceEq, Int.reduceNeg, Int.reduceToNat, Int.reducePow, Int.reduceMod, Int.reduceDiv, Int.reduceSub, Int.reduceAdd, Int.reduceMul, Nat.reduceMul, Nat.reduceSub, Nat.reducePow, exB, resC_ptr, res_cell, nilb, nilf, faddr_p, c_law04_RoundBetween, h1, hK]) | (simp (maxSteps := 1000000) (disch := first | with_reducible assumption | omega) only [wrap_i64, iaddr_D, rd_iptr, toNat_sub_one, toNat_add_one, sl_hi, sl_lo, iaddr_own, kM_new, sub_cells, setO_cells, sub_pre, ct_fz1, dec_t, dec_f, bv_t, bv_f, tmod_nn, tdiv_nn, bin_shl, bin_shr]) | (simp only [kI_d, kG_dt, kG_df]; split) | (simp only [kI_v, kG_vt, kG_vf]; split))
  · rw [decide_eq_false hlong] at h1
    have o1 := law04_opens1 (G := G) (T := T) hB hC hD hE (f := f) (m := m) (n := n) (z := z) hl (e := e)
    by_cases hop : op0 f m = 0
    · have hfm : (f = 1 ∨ f = 2) ∧ 1 ≤ m ∧ m ≤ 5 := by
        unfold op0 at hop
        by_cases a : f = 1 ∨ f = 2
        · rw [if_neg (not_not_intro a)] at hop
          by_cases b : 1 ≤ m ∧ m ≤ 5
          · exact ⟨a, b⟩
          · rw [if_pos b] at hop; cases hop
        · rw [if_pos a] at hop; cases hop
      obtain ⟨a, b⟩ := hfm
      obtain ⟨F, rfl⟩ := fm_of a
      rw [if_pos hop] at o1
      by_cases hm : mayD n l e = true
      · rw [hm, if_pos rfl] at o1
        have hnm := (mayL_iff.1 (mayD_facts hm).1).2
        obtain ⟨M, rfl⟩ : ∃ M, l = dl M := ⟨val l, (dl_val hl hnm).symm⟩
        have s1 := ref02_Sign (G := G) (T := T) hC (z := z) (d := ⟨n, M, e⟩)
        by_cases h0 : M = 0
        · rw [show sgnD ⟨n, M, e⟩ = 0 by simp [sgnD, h0]] at s1
          simp only [DyA, A3] at *
          repeat' (first | (simp (maxSteps := 1000000) only [evB, if_true, if_false, ne_eq, Nat.reduceEqDiff, Nat.reduceAdd, reduceCtorEq, Int.reduceLE, Int.reduceLT, Int.reduceEq, Int.reduceNeg, Int.reduceToNat, Int.reducePow, Int.reduceMod, Int.reduceDiv, Int.reduceSub, Int.reduceAdd, Int.reduceMul, Nat.reduceMul, Nat.reduceSub, Nat.reducePow, exB, resC_ptr, res_cell, nilb, nilf, faddr_p, c_law04_RoundBetween, h1, hK, o1, s1]) | (simp (maxSteps := 1000000) (disch := first | with_reducible assumption | omega) only [wrap_i64, iaddr_D, rd_iptr, toNat_sub_one, toNat_add_one, sl_hi, sl_lo, iaddr_own, kM_new, sub_cells, setO_cells, sub_pre, ct_fz1, dec_t, dec_f, bv_t, bv_f, tmod_nn, tdiv_nn, bin_shl, bin_shr]) | (simp only [kI_d, kG_dt, kG_df]; split) | (simp only [kI_v, kG_vt, kG_vf]; split))
        · have hs : ¬ sgnD ⟨n, M, e⟩ = 0 := by simp only [sgnD, if_neg h0]; split <;> decide
          have hb := may_blen (mayD_facts hm).1
          have he := (mayD_facts hm).2.2.2
          have bd : Bd ⟨n, M, e⟩ 34359738368 := ⟨by simp only; omega, by simp only; omega, by simp only; omega⟩
          have r5 := round_Round (G := G) (T := T) hA hC hG hD hE F (m := 5) (by decide) (z := z) (d := ⟨n, M, e⟩) hm
          have r4 := round_Round (G := G) (T := T) hA hC hG hD hE F (m := 4) (by decide) (z := z) (d := ⟨n, M, e⟩) hm
          have r3 := round_Round (G := G) (T := T) hA hC hG hD hE F (m := 3) (by decide) (z := z) (d := ⟨n, M, e⟩) hm
          have r := round_Round (G := G) (T := T) hA hC hG hD hE F b (z := z) (d := ⟨n, M, e⟩) hm
          have B := between F b.1 b.2 (d := ⟨n, M, e⟩) h0
          have hi := fm_i0 F
          obtain ⟨t5, u5, w5⟩ := B.ws 5 (by decide) (by decide)
          obtain ⟨t4, u4, w4⟩ := B.ws 4 (by decide) (by decide)
          have l5 := word_lt n u5
          have l4 := word_lt n u4
          have c5 := (cls_size n u5).2.2
          rw [← show (rndW F 5 ⟨n, M, e⟩).1 = t5 + F.sgn n from w5] at l5 c5
          rw [← show (rndW F 4 ⟨n, M, e⟩).1 = t4 + F.sgn n from w4] at l4
          clear w5 w4 u5 u4
          have hun : run G T 146 [.int .u8 F.u, .int .u64 ((rndW F 5 ⟨n, M, e⟩).1 : Int), DyA z ⟨n, M, e⟩] = some (.bool true) := by
            rcases B.under with ⟨q1, q2⟩ | ⟨q1, q2⟩
            · rw [law04_under_inf (G := G) (T := T) hD hT F (by omega) q1 (box_x 3 _ ▸ by simp [DyA, A3, ca_agg, okN_cons, okN_nil, okc_int, okc_bool, okc_D]), decide_eq_true q2]
            · rw [law04_under (G := G) (T := T) hA hB hC hD hT F (by omega) q1 bd, decide_eq_true q2]
          have hov : run G T 147 [.int .u8 F.u, .int .u64 ((rndW F 4 ⟨n, M, e⟩).1 : Int), DyA z ⟨n, M, e⟩] = some (.bool true) := by
            rcases B.over with ⟨q1, q2⟩ | ⟨q1, q2⟩
            · rw [law04_over_inf (G := G) (T := T) hD hT F (by omega) q1 (box_x 3 _ ▸ by simp [DyA, A3, ca_agg, okN_cons, okN_nil, okc_int, okc_bool, okc_D]), decide_eq_true q2]
            · rw [law04_over (G := G) (T := T) hA hB hC hD hT F (by omega) q1 bd, decide_eq_true q2]
          have up := ref03_Up (G := G) (T := T) hD hT F (w := (rndW F 5 ⟨n, M, e⟩).1) l5 c5
          have sg := ref03_Sign (G := G) (T := T) hD F
          have sd := ref03_Signed (G := G) (T := T) hD F (n := true) (w := 0)
          have hsd : 0 % F.sg + F.sgn true = F.sg := by rw [Nat.zero_mod]; simp [Fm.sgn]
          rw [hsd, cast0] at sd
          have B1 := B.same
          have B2 := B.step
          have B5 := B.flag 5 (by decide) (by decide)
          have B4 := B.flag 4 (by decide) (by decide)
          have Bm := B.flag m b.1 b.2
          have B3 := B.one
          have hsg : 0 < F.sg := hi.2.2.1
          have hmod : ((rndW F 5 ⟨n, M, e⟩).1 : Int) % (F.sg : Int) = (((rndW F 5 ⟨n, M, e⟩).1 % F.sg : Nat) : Int) := by omega
          have hsg2 := hi.2.2.2.1
          clear B bd hi hl hnm he hb c5
          generalize rndW F 5 ⟨n, M, e⟩ = p5 at *
          generalize rndW F 4 ⟨n, M, e⟩ = p4 at *
          generalize rndW F 3 ⟨n, M, e⟩ = p3 at *
          generalize rndW F m ⟨n, M, e⟩ = p at *
          obtain ⟨lo, x5⟩ := p5
          obtain ⟨hi, x4⟩ := p4
          obtain ⟨zz, x3⟩ := p3
          obtain ⟨w, x⟩ := p
          simp only at *
          by_cases heq : lo = hi
          · obtain ⟨z5, z4, zm, e1, e2⟩ := B1 heq
            subst heq z5 z4 zm e1 e2
            clear B1 B2 B3 B4 B5 Bm
            simp only [DyA, A3, cast0] at *
            repeat' (first | (simp (maxSteps := 1000000) only [evB, if_true, if_false, ne_eq, Nat.reduceEqDiff, Nat.reduceAdd, reduceCtorEq, Int.reduceLE, Int.reduceLT, Int.reduceEq, Int.reduceNeg, Int.reduceToNat, Int.reducePow, Int.reduceMod, Int.reduceDiv, Int.reduceSub, Int.reduceAdd, Int.reduceMul, Nat.reduceMul, Nat.reduceSub, Nat.reducePow, exB, resC_ptr, res_cell, nilb, nilf, faddr_p, c_law04_RoundBetween, h1, hK, o1, s1, hs, r5, r4, r3, r, hun, hov]) | (simp (maxSteps := 1000000) (disch := first | with_reducible assumption | omega) only [wrap_i64, iaddr_D, rd_iptr, toNat_sub_one, toNat_add_one, sl_hi, sl_lo, iaddr_own, kM_new, sub_cells, setO_cells, sub_pre, ct_fz1, dec_t, dec_f, bv_t, bv_f, tmod_nn, tdiv_nn, bin_shl, bin_shr]) | (simp only [kI_d, kG_dt, kG_df]; split) | (simp only [kI_v, kG_vt, kG_vf]; split))
          · obtain ⟨st, nz⟩ := B2 heq
            obtain ⟨wo, zl, zh⟩ := B3 heq
            have a5 := and16 (B5 heq)
            have a4 := and16 (B4 heq)
            have am := and16 (Bm heq)
            clear B1 B2 B3 B4 B5 Bm
            have heqi : ¬ (lo : Int) = (hi : Int) := by omega
            by_cases hz : lo % F.sg = 0
            · rw [if_pos hz] at st
              have hz1 : (lo : Int) % (F.sg : Int) = 0 := by rw [hmod, hz]; rfl
              have hh : hi = 1 := by cases st; rfl
              subst hh
              clear st hmod
              rw [show ((1 : Nat) : Int) = 1 from rfl] at *
              cases n
              · have := zl.2 rfl
                subst this
                clear zl zh
                simp only [DyA, A3] at *
                repeat' (first | (simp (maxSteps := 1000000) only [evB, if_true, if_false, ne_eq, Nat.reduceEqDiff, Nat.reduceAdd, reduceCtorEq, Int.reduceLE, Int.reduceLT, Int.reduceEq, Int.reduceNeg, Int.reduceToNat, Int.reducePow, Int.reduceMod, Int.reduceDiv, Int.reduceSub, Int.reduceAdd, Int.reduceMul, Nat.reduceMul, Nat.reduceSub, Nat.reducePow, exB, resC_ptr, res_cell, nilb, nilf, faddr_p, c_law04_RoundBetween, h1, hK, o1, s1, hs, r5, r4, r3, r, hun, hov, up, sg, hz1, sd, a5, a4, am, heqi ]) | (simp (maxSteps := 1000000) (disch := first | with_reducible assumption | omega) only [wrap_i64, iaddr_D, rd_iptr, toNat_sub_one, toNat_add_one, sl_hi, sl_lo, iaddr_own, kM_new, sub_cells, setO_cells, sub_pre, ct_fz1, dec_t, dec_f, bv_t, bv_f, tmod_nn, tdiv_nn, bin_shl, bin_shr,  bin_rem]) | (simp only [kI_d, kG_dt, kG_df]; split) | (simp only [kI_v, kG_vt, kG_vf]; split))
              · have := zh.2 rfl
                subst this
                clear zl zh
                simp only [DyA, A3] at *
                repeat' (first | (simp (maxSteps := 1000000) only [evB, if_true, if_false, ne_eq, Nat.reduceEqDiff, Nat.reduceAdd, reduceCtorEq, Int.reduceLE, Int.reduceLT, Int.reduceEq, Int.reduceNeg, Int.reduceToNat, Int.reducePow, Int.reduceMod, Int.reduceDiv, Int.reduceSub, Int.reduceAdd, Int.reduceMul, Nat.reduceMul, Nat.reduceSub, Nat.reducePow, exB, resC_ptr, res_cell, nilb, nilf, faddr_p, c_law04_RoundBetween, h1, hK, o1, s1, hs, r5, r4, r3, r, hun, hov, up, sg, hz1, sd, a5, a4, am, heqi ]) | (simp (maxSteps := 1000000) (disch := first | with_reducible assumption | omega) only [wrap_i64, iaddr_D, rd_iptr, toNat_sub_one, toNat_add_one, sl_hi, sl_lo, iaddr_own, kM_new, sub_cells, setO_cells, sub_pre, ct_fz1, dec_t, dec_f, bv_t, bv_f, tmod_nn, tdiv_nn, bin_shl, bin_shr,  bin_rem]) | (simp only [kI_d, kG_dt, kG_df]; split) | (simp only [kI_v, kG_vt, kG_vf]; split))
            · rw [if_neg hz] at st
              have hz1 : ¬ (lo : Int) % (F.sg : Int) = 0 := by rw [hmod]; omega
              rw [st] at up
              clear st hmod
              cases n
              · have := zl.2 rfl
                subst this
                clear zl zh
                simp only [DyA, A3] at *
                repeat' (first | (simp (maxSteps := 1000000) only [evB, if_true, if_false, ne_eq, Nat.reduceEqDiff, Nat.reduceAdd, reduceCtorEq, Int.reduceLE, Int.reduceLT, Int.reduceEq, Int.reduceNeg, Int.reduceToNat, Int.reducePow, Int.reduceMod, Int.reduceDiv, Int.reduceSub, Int.reduceAdd, Int.reduceMul, Nat.reduceMul, Nat.reduceSub, Nat.reducePow, exB, resC_ptr, res_cell, nilb, nilf, faddr_p, c_law04_RoundBetween, h1, hK, o1, s1, hs, r5, r4, r3, r, hun, hov, up, sg, hz1, sd, a5, a4, am, heqi ]) | (simp (maxSteps := 1000000) (disch := first | with_reducible assumption | omega) only [wrap_i64, iaddr_D, rd_iptr, toNat_sub_one, toNat_add_one, sl_hi, sl_lo, iaddr_own, kM_new, sub_cells, setO_cells, sub_pre, ct_fz1, dec_t, dec_f, bv_t, bv_f, tmod_nn, tdiv_nn, bin_shl, bin_shr,  bin_rem]) | (simp only [kI_d, kG_dt, kG_df]; split) | (simp only [kI_v, kG_vt, kG_vf]; split))
              · have := zh.2 rfl
                subst this
                clear zl zh
                simp only [DyA, A3] at *
                repeat' (first | (simp (maxSteps := 1000000) only [evB, if_true, if_false, ne_eq, Nat.reduceEqDiff, Nat.reduceAdd, reduceCtorEq, Int.reduceLE, Int.reduceLT, Int.reduceEq, Int.reduceNeg, Int.reduceToNat, Int.reducePow, Int.reduceMod, Int.reduceDiv, Int.reduceSub, Int.reduceAdd, Int.reduceMul, Nat.reduceMul, Nat.reduceSub, Nat.reducePow, exB, resC_ptr, res_cell, nilb, nilf, faddr_p, c_law04_RoundBetween, h1, hK, o1, s1, hs, r5, r4, r3, r, hun, hov, up, sg, hz1, sd, a5, a4, am, heqi ]) | (simp (maxSteps := 1000000) (disch := first | with_reducible assumption | omega) only [wrap_i64, iaddr_D, rd_iptr, toNat_sub_one, toNat_add_one, sl_hi, sl_lo, iaddr_own, kM_new, sub_cells, setO_cells, sub_pre, ct_fz1, dec_t, dec_f, bv_t, bv_f, tmod_nn, tdiv_nn, bin_shl, bin_shr,  bin_rem]) | (simp only [kI_d, kG_dt, kG_df]; split) | (simp only [kI_v, kG_vt, kG_vf]; split))
      · have hm' : mayD n l e = false := by simpa using hm
        rw [hm', if_neg (by decide)] at o1
        simp only [A3] at *
        repeat' (first | (simp (maxSteps := 1000000) only [evB, if_true, if_false, ne_eq, Nat.reduceEqDiff, Nat.reduceAdd, reduceCtorEq, Int.reduceLE, Int.reduceLT, Int.reduceEq, Int.reduceNeg, Int.reduceToNat, Int.reducePow, Int.reduceMod, Int.reduceDiv, Int.reduceSub, Int.reduceAdd, Int.reduceMul, Nat.reduceMul, Nat.reduceSub, Nat.reducePow, exB, resC_ptr, res_cell, nilb, nilf, faddr_p, c_law04_RoundBetween, h1, hK, o1]) | (simp (maxSteps := 1000000) (disch := first | with_reducible assumption | omega) only [wrap_i64, iaddr_D, rd_iptr, toNat_sub_one, toNat_add_one, sl_hi, sl_lo, iaddr_own, kM_new, sub_cells, setO_cells, sub_pre, ct_fz1, dec_t, dec_f, bv_t, bv_f, tmod_nn, tdiv_nn, bin_shl, bin_shr]) | (simp only [kI_d, kG_dt, kG_df]; split) | (simp only [kI_v, kG_vt, kG_vf]; split))
    · rw [if_neg hop] at o1
      simp only [A3] at *
      repeat' (first | (simp (maxSteps := 1000000) only [evB, if_true, if_false, ne_eq, Nat.reduceEqDiff, Nat.reduceAdd, reduceCtorEq, Int.reduceLE, Int.reduceLT, Int.reduceEq, Int.reduceNeg, Int.reduceToNat, Int.reducePow, Int.reduceMod, Int.reduceDiv, Int.reduceSub, Int.reduceAdd, Int.reduceMul, Nat.reduceMul, Nat.reduceSub, Nat.reducePow, exB, resC_ptr, res_cell, nilb, nilf, faddr_p, c_law04_RoundBetween, h1, hK, o1]) | (simp (maxSteps := 1000000) (disch := first | with_reducible assumption | omega) only [wrap_i64, iaddr_D, rd_iptr, toNat_sub_one, toNat_add_one, sl_hi, sl_lo, iaddr_own, kM_new, sub_cells, setO_cells, sub_pre, ct_fz1, dec_t, dec_f, bv_t, bv_f, tmod_nn, tdiv_nn, bin_shl, bin_shr]) | (simp only [kI_d, kG_dt, kG_df]; split) | (simp only [kI_v, kG_vt, kG_vf]; split))
end Go.Cv

/-
  Rounding a number with the other sign; rounding a word's own value.
-/
namespace Go.Cv

/-- ToUp and ToDown change places. -/
def swm (m : Int) : Int := if m = 4 then 5 else if m = 5 then 4 else m
theorem upB_swm (m : Int) (neg odd half more : Bool) : upB (swm m) (!neg) odd half more = upB m neg odd half more := by
  unfold swm upB
  by_cases h4 : m = 4
  · subst h4; simp
  · by_cases h5 : m = 5
    · subst h5; simp
    · simp [h4, h5]
theorem rnd_swm (m : Int) (neg : Bool) (M : Nat) (E u : Int) : rnd (swm m) (!neg) M E u = rnd m neg M E u := by
  unfold rnd rdN
  simp only [upB_swm]
theorem ovs_swm (F : Fm) (m : Int) (neg : Bool) : ovs F (swm m) (!neg) = ovs F m neg := by
  unfold swm ovs
  by_cases h4 : m = 4
  · subst h4; cases neg <;> simp
  · by_cases h5 : m = 5
    · subst h5; cases neg <;> simp
    · simp [h4, h5]
/-- The size of what rounding tells. -/
def rndS (F : Fm) (m : Int) (d : Dy) : Nat := if d.m = 0 then 0 else
  if F.wide < blen (rnd m d.n d.m d.e (F.eOf (d.e + blen d.m))).1 + F.eOf (d.e + blen d.m) then ovs F m d.n else F.enc (rnd m d.n d.m d.e (F.eOf (d.e + blen d.m))).1 (F.eOf (d.e + blen d.m))
theorem rndW_S (F : Fm) (m : Int) {d : Dy} (h0 : d.m ≠ 0) : (rndW F m d).1 = rndS F m d + F.sgn d.n := by
  unfold rndW rndS wordOf
  rw [if_neg h0, if_neg h0]
  simp only
  split
  · rw [ovr_eq]
  · rfl
theorem rndS_le (F : Fm) {m : Int} (m1 : 1 ≤ m) (m2 : m ≤ 5) {d : Dy} (h0 : d.m ≠ 0) : rndS F m d ≤ F.i0 := by
  obtain ⟨s, h1, h2⟩ := (between F (md := 1) (by decide) (by decide) h0).ws m m1 m2
  rw [rndW_S F m h0] at h2; omega
theorem neg_nm {d : Dy} (h0 : d.m ≠ 0) : negD d = ⟨!d.n, d.m, d.e⟩ := by unfold negD; rw [if_neg h0]
theorem mirror (F : Fm) (m : Int) {d : Dy} (h0 : d.m ≠ 0) : rndS F (swm m) (negD d) = rndS F m d ∧ (rndW F (swm m) (negD d)).2 = (rndW F m d).2 := by
  rw [neg_nm h0]
  unfold rndS rndW wordOf
  simp only [if_neg h0, rnd_swm, ovs_swm, true_and]
  split <;> rfl

/-- A word's own value is rounded to the word. -/
theorem round_val (F : Fm) (m : Int) {s : Nat} (n : Bool) (h : s < F.i0) (h0 : s ≠ 0) : rndW F m (F.val (s + F.sgn n)) = (s + F.sgn n, 0) ∧ (F.val (s + F.sgn n)).m ≠ 0 := by
  have hi := fm_i0 F
  have hF := fm_facts F
  obtain ⟨e1, e2⟩ := sgn_mod n (by omega : s < F.sg)
  have hp := Nat.two_pow_pos F.fr
  have hd := Nat.div_add_mod s (2 ^ F.fr)
  have hm := Nat.mod_lt s hp
  obtain ⟨k, u, hk0, hk1, hu, hku, hv, hs⟩ : ∃ (k : Nat) (u : Int), k ≠ 0 ∧ k < 2 ^ (F.fr + 1) ∧ F.low ≤ u ∧ (u = F.low ∨ 2 ^ F.fr ≤ k) ∧ F.val (s + F.sgn n) = mkD n k u ∧ F.enc k u = s := by
    unfold Fm.val Fm.ex Fm.fc
    rw [e1, e2]
    by_cases hx : s / 2 ^ F.fr = 0
    · rw [if_pos hx]
      rw [hx, Nat.mul_zero, Nat.zero_add] at hd
      refine ⟨s % 2 ^ F.fr, F.low, by omega, by rw [Nat.pow_succ]; omega, Int.le_refl _, Or.inl rfl, rfl, ?_⟩
      unfold Fm.enc; rw [Int.sub_self]; simpa using hd
    · rw [if_neg hx]
      have hx1 : 1 ≤ s / 2 ^ F.fr := Nat.pos_of_ne_zero hx
      refine ⟨2 ^ F.fr + s % 2 ^ F.fr, (s / 2 ^ F.fr : Nat) - 1 + F.low, by omega, by rw [Nat.pow_succ]; omega, by generalize s / 2 ^ F.fr = Q at *; omega, Or.inr (by omega), rfl, ?_⟩
      unfold Fm.enc
      rw [show ((s / 2 ^ F.fr : Nat) - 1 + F.low - F.low : Int).toNat = s / 2 ^ F.fr - 1 by generalize s / 2 ^ F.fr = Q at *; omega, Nat.sub_mul, Nat.one_mul, Nat.mul_comm]
      have : 2 ^ F.fr * 1 ≤ 2 ^ F.fr * (s / 2 ^ F.fr) := Nat.mul_le_mul_left _ hx1
      rw [Nat.mul_one] at this; omega
  rw [hv]
  have hne := mkD_m0 (n := n) hk0 u
  refine ⟨?_, hne⟩
  have hb := mkD_blen (n := n) hk0 u
  have hbk := blen_le.2 hk1
  have hE : F.eOf ((mkD n k u).e + blen (mkD n k u).m) = u := by
    unfold Fm.eOf
    rw [hb]
    rcases hku with h1 | h1
    · omega
    · have := lt_blen.2 h1; omega
  have hr : rnd m (mkD n k u).n (mkD n k u).m (mkD n k u).e u = (k, true) := by
    have hle : u ≤ (mkD n k u).e := by rw [mkD_pos hk0]; simp only; omega
    unfold rnd
    rw [if_pos hle, mkD_val hk0 (Int.le_refl u), Int.sub_self]; simp
  unfold rndW
  rw [if_neg hne]
  simp only
  rw [hE, hr]
  unfold wordOf
  have hbig := enc_big F (n := k) (u := u) (by omega) hu hku
  rw [hs] at hbig
  rw [if_neg (fun q => by have := hbig.1 q; omega), hs, mkD_n hk0]
  simp
theorem val_zero (F : Fm) (n : Bool) : F.val (0 + F.sgn n) = ⟨false, 0, 0⟩ := by
  have hi := fm_i0 F
  obtain ⟨e1, e2⟩ := sgn_mod (F := F) (s := 0) n (by omega)
  unfold Fm.val Fm.ex Fm.fc
  rw [e1]; simp [mkD_zero]
end Go.Cv

/-
  The statement on numbers with the other sign, and on words' own values.
-/
namespace Go.Cv
variable {G : Nat → Option (List AV)} {T : Tbl} {g : Nat}

theorem op0_iff {f m : Int} : op0 f m = 0 ↔ (f = 1 ∨ f = 2) ∧ 1 ≤ m ∧ m ≤ 5 := by
  unfold op0
  by_cases a : f = 1 ∨ f = 2
  · rw [if_neg (not_not_intro a)]
    by_cases b : 1 ≤ m ∧ m ≤ 5
    · rw [if_neg (not_not_intro b)]; exact ⟨fun _ => ⟨a, b⟩, fun _ => rfl⟩
    · rw [if_pos b]; exact ⟨(fun h => by cases h), fun h => absurd h.2 b⟩
  · rw [if_pos a]; exact ⟨(fun h => by cases h), fun h => absurd h.1 a⟩
theorem mayD_neg {d : Dy} (h : mayD d.n (dl d.m) d.e = true) : mayD (negD d).n (dl (negD d).m) (negD d).e = true := by
  by_cases h0 : d.m = 0
  · have : negD d = d := by unfold negD; rw [if_pos h0]
    rw [this]; exact h
  · rw [neg_nm h0]
    simp only [mayD] at h ⊢
    have h1 : ¬ (dl d.m).length = 0 := by rw [dl_len0]; exact h0
    rw [if_neg h1] at h ⊢
    exact h
theorem mayD_val (F : Fm) {w : Nat} (hf : F.fin w) : mayD (F.val w).n (dl (F.val w).m) (F.val w).e = true := by
  have hm : F.most ≤ 2047 := by cases F <;> decide
  have hy : F.fc w < 2 ^ F.fr := Nat.mod_lt _ (Nat.two_pow_pos _)
  have hp : 2 ^ F.fr ≤ 4503599627370496 := by cases F <;> decide
  have hF := fm_facts F
  unfold Fm.fin at hf
  unfold Fm.val
  generalize F.ex w = x at *
  generalize F.fc w = y at *
  have hb1 : blen y ≤ 53 := blen_le.2 (by omega)
  have hb2 : blen (2 ^ F.fr + y) ≤ 53 := blen_le.2 (by omega)
  split
  · refine mayD_mk (by omega) ?_
    by_cases h0 : y = 0
    · exact Or.inl h0
    · right; have := tz_blen h0; omega
  · refine mayD_mk (by omega) ?_
    have h0 : 2 ^ F.fr + y ≠ 0 := by have := Nat.two_pow_pos F.fr; omega
    right; have := tz_blen h0; omega
/-- A word, taken apart. -/
theorem word_parts {F : Fm} {w : Nat} (h : w < 2 * F.sg) : ∃ s n, w = s + F.sgn n ∧ s < F.sg ∧ (F.fin w → s < F.i0) ∧ (w = F.sg ↔ s = 0 ∧ n = true) := by
  have hi := fm_i0 F
  refine ⟨w % F.sg, F.ng w, ?_, Nat.mod_lt _ hi.2.2.1, fun hf => ?_, ?_⟩
  · unfold Fm.ng Fm.sgn
    by_cases h1 : F.sg ≤ w
    · rw [decide_eq_true h1, if_pos rfl, Nat.mod_eq_sub_mod h1, Nat.mod_eq_of_lt (by omega)]; omega
    · rw [decide_eq_false h1, if_neg (by decide), Nat.mod_eq_of_lt (by omega)]; rfl
  · unfold Fm.fin Fm.ex at hf
    unfold Fm.i0
    have := Nat.div_add_mod (w % F.sg) (2 ^ F.fr)
    have h2 := Nat.mod_lt (w % F.sg) (Nat.two_pow_pos F.fr)
    have h3 : (w % F.sg / 2 ^ F.fr + 1) * 2 ^ F.fr ≤ F.most * 2 ^ F.fr := Nat.mul_le_mul_right _ hf
    rw [Nat.add_mul, Nat.one_mul, Nat.mul_comm] at h3
    omega
  · unfold Fm.ng
    constructor
    · intro e; rw [e, Nat.mod_self]; exact ⟨rfl, decide_eq_true (Nat.le_refl _)⟩
    · rintro ⟨h1, h2⟩
      simp only [decide_eq_true_eq] at h2
      rw [Nat.mod_eq_sub_mod h2, Nat.mod_eq_of_lt (by omega)] at h1; omega

theorem mirror_facts (F : Fm) {m : Int} (b : 1 ≤ m ∧ m ≤ 5) (d : Dy) : ∃ A B x : Nat, rndW F m d = (A, x) ∧ rndW F (swm m) (negD d) = (B, x) ∧ ((d.m = 0 ∧ A = 0 ∧ B = 0 ∧ x = 0) ∨ (d.m ≠ 0 ∧ A % F.sg = B % F.sg ∧ A ≠ B)) := by
  have hi := fm_i0 F
  by_cases h0 : d.m = 0
  · have e1 : negD d = d := by unfold negD; rw [if_pos h0]
    refine ⟨0, 0, 0, ?_, ?_, Or.inl ⟨h0, rfl, rfl, rfl⟩⟩
    · unfold rndW; rw [if_pos h0]
    · rw [e1]; unfold rndW; rw [if_pos h0]
  · obtain ⟨m1, m2⟩ := mirror F m h0
    have q1 := rndW_S F m h0
    have h0' : (negD d).m ≠ 0 := by rw [neg_nm h0]; exact h0
    have q2 := rndW_S F (swm m) h0'
    have hl := rndS_le F b.1 b.2 h0
    rw [m1, show (negD d).n = !d.n by rw [neg_nm h0]] at q2
    have k1 := (sgn_mod (F := F) d.n (by omega : rndS F m d < F.sg)).1
    have k2 := (sgn_mod (F := F) (!d.n) (by omega : rndS F m d < F.sg)).1
    refine ⟨(rndW F m d).1, (rndW F (swm m) (negD d)).1, (rndW F m d).2, rfl, by rw [← m2], Or.inr ⟨h0, by rw [q1, q2, k1, k2], ?_⟩⟩
    rw [q1, q2]
    cases d.n <;> simp [Fm.sgn] <;> omega
theorem val_facts (F : Fm) (m : Int) {w : Nat} (h : w < 2 * F.sg) (hf : F.fin w) : rndW F m (F.val w) = (if w = F.sg then 0 else w, 0) := by
  obtain ⟨s, n, hw, h1, h2, h3⟩ := word_parts h
  have hi := fm_i0 F
  by_cases h0 : s = 0
  · subst h0
    rw [hw, val_zero]
    unfold rndW
    rw [if_pos rfl, ← hw]
    by_cases h4 : w = F.sg
    · rw [if_pos h4]
    · rw [if_neg h4]
      cases n
      · rw [hw]; rfl
      · exact absurd (h3.2 ⟨rfl, rfl⟩) h4
  · have := (round_val F m n (h2 hf) h0).1
    rw [hw, this, if_neg (fun q => h0 (h3.1 (hw.trans q)).1)]

set_option maxHeartbeats 4000000 in
theorem law04_RoundMirror (hA : HasA g T) (hB : HasB g T) (hC : HasC g T) (hG : Glob G g) (hD : HasD g T) (hE : HasE g T) (hT : HasF g T) (hK : run G T 5 [] = some (.bool true))
    {f m : Int} {n z : Bool} {l : List Nat} {e : Int} {w : Nat} (hl : Dg l) (hw : w < 18446744073709551616) :
    run G T 144 [.int .u8 f, .int .u8 m, A3 n (D z l) e, .int .u64 (w : Int)] = some (.bool true) := by
  rw [run_k G T hT.law04_RoundMirror]
  have h1 := law04_long (G := G) (T := T) hE (n := n) (z := z) (l := l) (e := e)
  by_cases hlong : 300 < l.length
  · rw [decide_eq_true hlong] at h1
    simp only [A3] at *
    repeat' (first | (simp (maxSteps := 1000000) only [evB, if_true, if_false, ne_eq, Nat.reduceEqDiff, Nat.reduceAdd, reduceCtorEq, Int.reduceLE, Int.reduceLT, Int.reduceEq, Int.reduceNeg, Int.reduceToNat, Int.reducePow, Int.reduceMod, Int.reduceDiv, Int.reduceSub, Int.reduceAdd, Int.reduceMul, Nat.reduceMul, Nat.reduceSub, Nat.reducePow, exB, resC_ptr, res_cell, nilb, nilf, faddr_p, c_law04_RoundMirror, h1, hK]) | (simp (maxSteps := 1000000) (disch := first | with_reducible assumption | omega) only [wrap_i64, iaddr_D, rd_iptr, toNat_sub_one, toNat_add_one, sl_hi, sl_lo, iaddr_own, kM_new, sub_cells, setO_cells, sub_pre, ct_fz1, dec_t, dec_f, bv_t, bv_f, tmod_nn, tdiv_nn, bin_shl, bin_shr]) | (simp only [kI_d, kG_dt, kG_df]; split) | (simp only [kI_v, kG_vt, kG_vf]; split))
  · rw [decide_eq_false hlong] at h1
    have o1 := law04_opens1 (G := G) (T := T) hB hC hD hE (f := f) (m := m) (n := n) (z := z) hl (e := e)
    by_cases hop : op0 f m = 0
    · obtain ⟨a, b⟩ := op0_iff.1 hop
      obtain ⟨F, rfl⟩ := fm_of a
      rw [if_pos hop] at o1
      have gd := ref03_Good (G := G) (T := T) hD hT F hw
      by_cases hm : mayD n l e = true
      · rw [hm, if_pos rfl] at o1
        by_cases hw2 : w < 2 * F.sg
        · rw [if_pos hw2] at gd
          have hnm := (mayL_iff.1 (mayD_facts hm).1).2
          obtain ⟨M, rfl⟩ : ∃ M, l = dl M := ⟨val l, (dl_val hl hnm).symm⟩
          have hi := fm_i0 F
          have s1 := ref02_Sign (G := G) (T := T) hC (z := z) (d := ⟨n, M, e⟩)
          have ng := ref02_Neg (G := G) (T := T) hC (z := z) (d := ⟨n, M, e⟩)
          have r := round_Round (G := G) (T := T) hA hC hG hD hE F b (z := z) (d := ⟨n, M, e⟩) hm
          have b' : 1 ≤ swm m ∧ swm m ≤ 5 := by unfold swm; split <;> (try split) <;> omega
          have r' := round_Round (G := G) (T := T) hA hC hG hD hE F b' (z := z) (d := negD ⟨n, M, e⟩) (mayD_neg hm)
          have fi := ref03_Finite (G := G) (T := T) hD hT F hw
          have sg := ref03_Sign (G := G) (T := T) hD F
          obtain ⟨A, B, x, e1, e2, hc⟩ := mirror_facts F b ⟨n, M, e⟩
          rw [e1] at r
          rw [e2] at r'
          have hsg : 0 < F.sg := hi.2.2.1
          have hsg2 := hi.2.2.2.1
          have hfv : F.fin w → ∃ z2, run G T 151 [.int .u8 F.u, .int .u64 (w : Int)] = some (DyA z2 (F.val w)) ∧ run G T 7 [.int .u8 F.u, .int .u8 m, DyA z2 (F.val w)] = some (.tup [.int .u64 ((if w = F.sg then 0 else w : Nat) : Int), .int .u8 0, .int .i64 0]) := fun hf => by
            obtain ⟨z2, v⟩ := ref03_Value (G := G) (T := T) hA hB hC hD hT F hw hf
            have rr := round_Round (G := G) (T := T) hA hC hG hD hE F b (z := z2) (d := F.val w) (mayD_val F hf)
            rw [val_facts F m hw2 hf] at rr
            exact ⟨z2, v, rr⟩
          have hmm : (m = 4 ∧ swm m = 5) ∨ (m = 5 ∧ swm m = 4) ∨ (¬ m = 4 ∧ ¬ m = 5 ∧ swm m = m) := by
            unfold swm
            by_cases m4 : m = 4
            · left; exact ⟨m4, by rw [if_pos m4]⟩
            · by_cases m5 : m = 5
              · right; left; exact ⟨m5, by rw [if_neg m4, if_pos m5]⟩
              · right; right; exact ⟨m4, m5, by rw [if_neg m4, if_neg m5]⟩
          have hsz : (M = 0 ∧ sgnD ⟨n, M, e⟩ = 0) ∨ (M ≠ 0 ∧ ¬ sgnD ⟨n, M, e⟩ = 0) := by
            by_cases h0 : M = 0
            · left; exact ⟨h0, by simp [sgnD, h0]⟩
            · right; refine ⟨h0, ?_⟩; simp only [sgnD, if_neg h0]; split <;> decide
          have hAB : (sgnD ⟨n, M, e⟩ = 0 ∧ (A : Int) = 0 ∧ (B : Int) = 0 ∧ (x : Int) = 0) ∨ (¬ sgnD ⟨n, M, e⟩ = 0 ∧ (A : Int) % (F.sg : Int) = (B : Int) % (F.sg : Int) ∧ ¬ (A : Int) = (B : Int) ∧ (0 : Int) ≤ 1) := by
            rcases hc with ⟨c1, c2⟩ | ⟨c1, c2, c3⟩
            · left; rcases hsz with ⟨_, q⟩ | ⟨q, _⟩
              · exact ⟨q, by omega, by omega, by omega⟩
              · exact absurd c1 q
            · right; rcases hsz with ⟨q, _⟩ | ⟨_, q⟩
              · exact absurd q c1
              · exact ⟨q, by omega, by omega, by decide⟩
          have hA64 : (A : Int) < 18446744073709551616 := by
            have : (A : Int) ≥ 0 := Int.natCast_nonneg A
            by_cases h0 : M = 0
            · rcases hc with ⟨_, c2, _⟩ | ⟨c1, _⟩
              · omega
              · exact absurd h0 c1
            · have q := rndW_S F m (d := ⟨n, M, e⟩) h0
              rw [e1] at q
              have := word_lt (F := F) n (rndS_le F b.1 b.2 (d := ⟨n, M, e⟩) h0)
              simp only at q; omega
          generalize sgnD ⟨n, M, e⟩ = sn at *
          simp only [DyA, A3] at *
          generalize negD ⟨n, M, e⟩ = nd at *
          clear hc hsz e1 e2 hm hl
          by_cases hf : F.fin w
          · obtain ⟨z2, v, rr⟩ := hfv hf
            rw [decide_eq_true hf] at fi
            generalize F.val w = vd at *
            clear hfv hf
            by_cases hws : w = F.sg
            · rw [if_pos hws, cast0] at rr
              subst hws
              have hwi : (0 : Int) ≤ 1 := by decide
              rcases hmm with ⟨m4, sw⟩ | ⟨m5, sw⟩ | ⟨m4, m5, sw⟩ <;> rw [sw] at r' <;> (try subst m4) <;> (try subst m5) <;> rcases hAB with ⟨q1, q2, q3, q4⟩ | ⟨q1, q2, q3, q4⟩
              all_goals
                repeat' (first | (simp (maxSteps := 1000000) only [evB, if_true, if_false, ne_eq, Nat.reduceEqDiff, Nat.reduceAdd, reduceCtorEq, Int.reduceLE, Int.reduceLT, Int.reduceEq, Int.reduceNeg, Int.reduceToNat, Int.reducePow, Int.reduceMod, Int.reduceDiv, Int.reduceSub, Int.reduceAdd, Int.reduceMul, Nat.reduceMul, Nat.reduceSub, Nat.reducePow, exB, resC_ptr, res_cell, nilb, nilf, faddr_p, c_law04_RoundMirror, h1, hK, o1, gd, s1, ng, r, r', fi, sg, v, rr, q1, q2, q3, q4, hwi ]) | (simp (maxSteps := 1000000) (disch := first | with_reducible assumption | omega) only [wrap_i64, iaddr_D, rd_iptr, toNat_sub_one, toNat_add_one, sl_hi, sl_lo, iaddr_own, kM_new, sub_cells, setO_cells, sub_pre, ct_fz1, dec_t, dec_f, bv_t, bv_f, tmod_nn, tdiv_nn, bin_shl, bin_shr,  bin_rem]) | (simp only [kI_d, kG_dt, kG_df]; split) | (simp only [kI_v, kG_vt, kG_vf]; split))
            · rw [if_neg hws] at rr
              have hwi : ¬ (w : Int) = (F.sg : Int) := by omega
              rcases hmm with ⟨m4, sw⟩ | ⟨m5, sw⟩ | ⟨m4, m5, sw⟩ <;> rw [sw] at r' <;> (try subst m4) <;> (try subst m5) <;> rcases hAB with ⟨q1, q2, q3, q4⟩ | ⟨q1, q2, q3, q4⟩
              all_goals
                repeat' (first | (simp (maxSteps := 1000000) only [evB, if_true, if_false, ne_eq, Nat.reduceEqDiff, Nat.reduceAdd, reduceCtorEq, Int.reduceLE, Int.reduceLT, Int.reduceEq, Int.reduceNeg, Int.reduceToNat, Int.reducePow, Int.reduceMod, Int.reduceDiv, Int.reduceSub, Int.reduceAdd, Int.reduceMul, Nat.reduceMul, Nat.reduceSub, Nat.reducePow, exB, resC_ptr, res_cell, nilb, nilf, faddr_p, c_law04_RoundMirror, h1, hK, o1, gd, s1, ng, r, r', fi, sg, v, rr, q1, q2, q3, q4, hwi ]) | (simp (maxSteps := 1000000) (disch := first | with_reducible assumption | omega) only [wrap_i64, iaddr_D, rd_iptr, toNat_sub_one, toNat_add_one, sl_hi, sl_lo, iaddr_own, kM_new, sub_cells, setO_cells, sub_pre, ct_fz1, dec_t, dec_f, bv_t, bv_f, tmod_nn, tdiv_nn, bin_shl, bin_shr,  bin_rem]) | (simp only [kI_d, kG_dt, kG_df]; split) | (simp only [kI_v, kG_vt, kG_vf]; split))
          · rw [decide_eq_false hf] at fi
            clear hfv hf
            rcases hmm with ⟨m4, sw⟩ | ⟨m5, sw⟩ | ⟨m4, m5, sw⟩ <;> rw [sw] at r' <;> (try subst m4) <;> (try subst m5) <;> rcases hAB with ⟨q1, q2, q3, q4⟩ | ⟨q1, q2, q3, q4⟩
            all_goals
              repeat' (first | (simp (maxSteps := 1000000) only [evB, if_true, if_false, ne_eq, Nat.reduceEqDiff, Nat.reduceAdd, reduceCtorEq, Int.reduceLE, Int.reduceLT, Int.reduceEq, Int.reduceNeg, Int.reduceToNat, Int.reducePow, Int.reduceMod, Int.reduceDiv, Int.reduceSub, Int.reduceAdd, Int.reduceMul, Nat.reduceMul, Nat.reduceSub, Nat.reducePow, exB, resC_ptr, res_cell, nilb, nilf, faddr_p, c_law04_RoundMirror, h1, hK, o1, gd, s1, ng, r, r', fi, sg, q1, q2, q3, q4 ]) | (simp (maxSteps := 1000000) (disch := first | with_reducible assumption | omega) only [wrap_i64, iaddr_D, rd_iptr, toNat_sub_one, toNat_add_one, sl_hi, sl_lo, iaddr_own, kM_new, sub_cells, setO_cells, sub_pre, ct_fz1, dec_t, dec_f, bv_t, bv_f, tmod_nn, tdiv_nn, bin_shl, bin_shr,  bin_rem]) | (simp only [kI_d, kG_dt, kG_df]; split) | (simp only [kI_v, kG_vt, kG_vf]; split))
        · rw [if_neg hw2] at gd
          simp only [A3] at *
          repeat' (first | (simp (maxSteps := 1000000) only [evB, if_true, if_false, ne_eq, Nat.reduceEqDiff, Nat.reduceAdd, reduceCtorEq, Int.reduceLE, Int.reduceLT, Int.reduceEq, Int.reduceNeg, Int.reduceToNat, Int.reducePow, Int.reduceMod, Int.reduceDiv, Int.reduceSub, Int.reduceAdd, Int.reduceMul, Nat.reduceMul, Nat.reduceSub, Nat.reducePow, exB, resC_ptr, res_cell, nilb, nilf, faddr_p, c_law04_RoundMirror, h1, hK, o1, gd]) | (simp (maxSteps := 1000000) (disch := first | with_reducible assumption | omega) only [wrap_i64, iaddr_D, rd_iptr, toNat_sub_one, toNat_add_one, sl_hi, sl_lo, iaddr_own, kM_new, sub_cells, setO_cells, sub_pre, ct_fz1, dec_t, dec_f, bv_t, bv_f, tmod_nn, tdiv_nn, bin_shl, bin_shr]) | (simp only [kI_d, kG_dt, kG_df]; split) | (simp only [kI_v, kG_vt, kG_vf]; split))
      · have hm' : mayD n l e = false := by simpa using hm
        rw [hm', if_neg (by decide)] at o1
        simp only [A3] at *
        repeat' (first | (simp (maxSteps := 1000000) only [evB, if_true, if_false, ne_eq, Nat.reduceEqDiff, Nat.reduceAdd, reduceCtorEq, Int.reduceLE, Int.reduceLT, Int.reduceEq, Int.reduceNeg, Int.reduceToNat, Int.reducePow, Int.reduceMod, Int.reduceDiv, Int.reduceSub, Int.reduceAdd, Int.reduceMul, Nat.reduceMul, Nat.reduceSub, Nat.reducePow, exB, resC_ptr, res_cell, nilb, nilf, faddr_p, c_law04_RoundMirror, h1, hK, o1]) | (simp (maxSteps := 1000000) (disch := first | with_reducible assumption | omega) only [wrap_i64, iaddr_D, rd_iptr, toNat_sub_one, toNat_add_one, sl_hi, sl_lo, iaddr_own, kM_new, sub_cells, setO_cells, sub_pre, ct_fz1, dec_t, dec_f, bv_t, bv_f, tmod_nn, tdiv_nn, bin_shl, bin_shr]) | (simp only [kI_d, kG_dt, kG_df]; split) | (simp only [kI_v, kG_vt, kG_vf]; split))
    · rw [if_neg hop] at o1
      simp only [A3] at *
      repeat' (first | (simp (maxSteps := 1000000) only [evB, if_true, if_false, ne_eq, Nat.reduceEqDiff, Nat.reduceAdd, reduceCtorEq, Int.reduceLE, Int.reduceLT, Int.reduceEq, Int.reduceNeg, Int.reduceToNat, Int.reducePow, Int.reduceMod, Int.reduceDiv, Int.reduceSub, Int.reduceAdd, Int.reduceMul, Nat.reduceMul, Nat.reduceSub, Nat.reducePow, exB, resC_ptr, res_cell, nilb, nilf, faddr_p, c_law04_RoundMirror, h1, hK, o1]) | (simp (maxSteps := 1000000) (disch := first | with_reducible assumption | omega) only [wrap_i64, iaddr_D, rd_iptr, toNat_sub_one, toNat_add_one, sl_hi, sl_lo, iaddr_own, kM_new, sub_cells, setO_cells, sub_pre, ct_fz1, dec_t, dec_f, bv_t, bv_f, tmod_nn, tdiv_nn, bin_shl, bin_shr]) | (simp only [kI_d, kG_dt, kG_df]; split) | (simp only [kI_v, kG_vt, kG_vf]; split))
end Go.Cv

/-
  A greater number is never rounded to a lesser word; the word that is told is nearest.
-/
namespace Go.Cv

theorem enc_mono (F : Fm) (u : Int) {a b : Nat} (h : a ≤ b) : F.enc a u ≤ F.enc b u := by unfold Fm.enc; omega
/-- The size that is told, out of the units. -/
theorem rndS_enc (F : Fm) {m : Int} {d : Dy} (h0 : d.m ≠ 0) :
    rndS F m d = if F.i0 ≤ F.enc (rnd m d.n d.m d.e (F.eOf (d.e + blen d.m))).1 (F.eOf (d.e + blen d.m)) then ovs F m d.n else F.enc (rnd m d.n d.m d.e (F.eOf (d.e + blen d.m))).1 (F.eOf (d.e + blen d.m)) := by
  obtain ⟨q1, q2, _, _⟩ := rnd_bd F (md := m) h0
  have hu : F.low ≤ F.eOf (d.e + blen d.m) := by unfold Fm.eOf; omega
  have hb := enc_big F q1 hu q2
  unfold rndS
  rw [if_neg h0]
  by_cases h : F.wide < blen (rnd m d.n d.m d.e (F.eOf (d.e + blen d.m))).1 + F.eOf (d.e + blen d.m)
  · rw [if_pos h, if_pos (hb.1 h)]
  · rw [if_neg h, if_neg (fun q => h (hb.2 q))]

theorem rndS_mono (F : Fm) (m : Int) {a b : Dy} (ha : a.m ≠ 0) (hb : b.m ≠ 0) (hn : a.n = b.n) {L : Int} (la : L < a.e) (lb : L < b.e) (ll : L < F.low)
    (h : b.m * 2 ^ (b.e - L).toNat ≤ a.m * 2 ^ (a.e - L).toNat) : rndS F m b ≤ rndS F m a := by
  have hi := fm_i0 F
  have ta := blen_mul ha (a.e - L).toNat
  have tb := blen_mul hb (b.e - L).toNat
  have ht := blen_mono h
  have hu : F.eOf (b.e + blen b.m) ≤ F.eOf (a.e + blen a.m) := by unfold Fm.eOf; omega
  have ha0 : F.low ≤ F.eOf (a.e + blen a.m) := by unfold Fm.eOf; omega
  have hb0 : F.low ≤ F.eOf (b.e + blen b.m) := by unfold Fm.eOf; omega
  obtain ⟨p1, p2, _, _⟩ := rnd_bd F (md := m) ha
  obtain ⟨q1, q2, _, _⟩ := rnd_bd F (md := m) hb
  have he : F.enc (rnd m b.n b.m b.e (F.eOf (b.e + blen b.m))).1 (F.eOf (b.e + blen b.m)) ≤ F.enc (rnd m a.n a.m a.e (F.eOf (a.e + blen a.m))).1 (F.eOf (a.e + blen a.m)) := by
    by_cases hq : F.eOf (b.e + blen b.m) = F.eOf (a.e + blen a.m)
    · rw [hq]
      apply enc_mono
      rw [rnd_L m a.n a.m (L := L) (by omega) (by omega), rnd_L m b.n b.m (L := L) (by omega) (by omega), hn]
      exact rdN_mono m b.n h (by omega)
    · rcases p2 with p2 | p2
      · exfalso; omega
      · unfold Fm.enc
        rw [Nat.pow_succ] at q1
        obtain ⟨j, hj⟩ : ∃ j, (F.eOf (b.e + blen b.m) - F.low).toNat = j := ⟨_, rfl⟩
        obtain ⟨k, hk⟩ : ∃ k, (F.eOf (a.e + blen a.m) - F.low).toNat = k := ⟨_, rfl⟩
        rw [hj, hk]
        have h5 : (j + 1) * 2 ^ F.fr ≤ k * 2 ^ F.fr := Nat.mul_le_mul_right _ (by omega)
        rw [Nat.add_mul, Nat.one_mul] at h5
        omega
  rw [rndS_enc F ha, rndS_enc F hb, hn]
  rw [hn] at he
  have ho : ovs F m b.n = F.i0 - 1 ∨ ovs F m b.n = F.i0 := by unfold ovs; split <;> omega
  split <;> split <;> omega

/-- A word's place among all words. -/
def keyW (s : Nat) (n : Bool) : Int := if n then -(s : Int) else s
theorem above_key (F : Fm) {s t : Nat} {n k : Bool} (hs : s ≤ F.i0) (ht : t ≤ F.i0) (h : keyW t k ≤ keyW s n) : aboveW F (s + F.sgn n) (t + F.sgn k) = true := by
  have hi := fm_i0 F
  unfold aboveW
  have e1 : ∀ (s : Nat) (n k : Bool), s ≤ F.i0 → (s + F.sgn n = F.i0 + F.sgn k ↔ s = F.i0 ∧ n = k) := fun s n k hs => by
    unfold Fm.sgn
    cases n <;> cases k <;> simp <;> omega
  have d1 : (s + F.sgn n = F.inf false ∨ t + F.sgn k = F.inf true) ↔ ((s = F.i0 ∧ n = false) ∨ (t = F.i0 ∧ k = true)) := by rw [inf_eq, inf_eq, e1 s n false hs, e1 t k true ht]
  have d2 : (s + F.sgn n = F.inf true ∨ t + F.sgn k = F.inf false) ↔ ((s = F.i0 ∧ n = true) ∨ (t = F.i0 ∧ k = false)) := by rw [inf_eq, inf_eq, e1 s n true hs, e1 t k false ht]
  by_cases c1 : (s = F.i0 ∧ n = false) ∨ (t = F.i0 ∧ k = true)
  · rw [if_pos (d1.2 c1)]
  · rw [if_neg (fun q => c1 (d1.1 q))]
    by_cases c2 : (s = F.i0 ∧ n = true) ∨ (t = F.i0 ∧ k = false)
    · exfalso
      unfold keyW at h
      cases n <;> cases k <;> simp at h c1 c2 <;> omega
    · rw [if_neg (fun q => c2 (d2.1 q))]
      have s1 : s < F.i0 := by
        rcases Nat.lt_or_ge s F.i0 with q | q
        · exact q
        · exfalso; cases n
          · exact c1 (Or.inl ⟨by omega, rfl⟩)
          · exact c2 (Or.inl ⟨by omega, rfl⟩)
      have t1 : t < F.i0 := by
        rcases Nat.lt_or_ge t F.i0 with q | q
        · exact q
        · exfalso; cases k
          · exact c2 (Or.inr ⟨by omega, rfl⟩)
          · exact c1 (Or.inr ⟨by omega, rfl⟩)
      obtain ⟨v1, v2, _⟩ := iv_val n s1
      obtain ⟨w1, w2, _⟩ := iv_val k t1
      rw [cmp_iv v2 w2, v1, w1]
      apply decide_eq_true
      have hnot : ¬ ((if n = true then -1 else 1) * (magN F s : Int) - (if k = true then -1 else 1) * (magN F t : Int)) < 0 := by
        unfold keyW at h
        have z := magN_zero F
        cases n <;> cases k <;> simp only [Bool.false_eq_true, if_false, if_true] at h ⊢
        · have := magN_le F (by omega : t ≤ s); omega
        · omega
        · have h1 : s = 0 := by omega
          have h2 : t = 0 := by omega
          subst h1 h2; omega
        · have := magN_le F (by omega : s ≤ t); omega
      have := sgI_neg (x := (if n = true then -1 else 1) * (magN F s : Int) - (if k = true then -1 else 1) * (magN F t : Int))
      omega

/-- The word that is told, by its size. -/
theorem rndW_key (F : Fm) {m : Int} (m1 : 1 ≤ m) (m2 : m ≤ 5) (d : Dy) : ∃ s n, (rndW F m d).1 = s + F.sgn n ∧ s ≤ F.i0 ∧ s = rndS F m d ∧ (d.m = 0 → s = 0 ∧ n = false) ∧ (d.m ≠ 0 → n = d.n) := by
  by_cases h0 : d.m = 0
  · refine ⟨0, false, ?_, Nat.zero_le _, ?_, fun _ => ⟨rfl, rfl⟩, fun h => absurd h0 h⟩
    · unfold rndW; rw [if_pos h0]; rfl
    · unfold rndS; rw [if_pos h0]
  · exact ⟨rndS F m d, d.n, rndW_S F m h0, rndS_le F m1 m2 h0, rfl, fun h => absurd h h0, fun _ => rfl⟩
end Go.Cv

/-
  Rounding keeps the order; the word that is told to the nearest is nearest.
-/
namespace Go.Cv

theorem low_of (F : Fm) (a b : Dy) : ∃ L : Int, L < F.low ∧ L < a.e ∧ L < b.e := ⟨min F.low (min a.e b.e) - 1, by omega, by omega, by omega⟩
theorem LoE_lt {d : Dy} {L : Int} (h : L < d.e) : LoE d L := Or.inr (by omega)

theorem order (F : Fm) {m : Int} (m1 : 1 ≤ m) (m2 : m ≤ 5) {a b : Dy} (h : 0 ≤ cmpD a b) : aboveW F (rndW F m a).1 (rndW F m b).1 = true := by
  obtain ⟨L, l1, l2, l3⟩ := low_of F a b
  rw [cmp_iv (LoE_lt l2) (LoE_lt l3)] at h
  have hle : iv b L ≤ iv a L := by
    have := sgI_neg (x := iv a L - iv b L); omega
  obtain ⟨s, n, e1, hs, es, sz, sn⟩ := rndW_key F m1 m2 a
  obtain ⟨t, k, e2, ht, et, tz, tn⟩ := rndW_key F m1 m2 b
  rw [e1, e2]
  refine above_key F hs ht ?_
  have pa : a.m ≠ 0 → 0 < a.m * 2 ^ (a.e - L).toNat := fun h => Nat.mul_pos (Nat.pos_of_ne_zero h) (Nat.two_pow_pos _)
  have pb : b.m ≠ 0 → 0 < b.m * 2 ^ (b.e - L).toNat := fun h => Nat.mul_pos (Nat.pos_of_ne_zero h) (Nat.two_pow_pos _)
  rw [iv_num, iv_num] at hle
  unfold keyW
  by_cases ha : a.m = 0
  · obtain ⟨rfl, rfl⟩ := sz ha
    rw [ha, Nat.zero_mul] at hle
    by_cases hb : b.m = 0
    · obtain ⟨rfl, rfl⟩ := tz hb
      decide
    · have := pb hb
      have hk := tn hb
      cases hbn : b.n
      · rw [hbn] at hle; simp only [Bool.false_eq_true, if_false] at hle; split at hle <;> omega
      · rw [hk, hbn]; simp only [Bool.false_eq_true, if_false, if_true]; omega
  · have hna := sn ha
    have := pa ha
    by_cases hb : b.m = 0
    · obtain ⟨rfl, rfl⟩ := tz hb
      rw [hb, Nat.zero_mul] at hle
      cases han : a.n
      · rw [hna, han]; simp only [Bool.false_eq_true, if_false]; omega
      · rw [han] at hle; simp only [if_true] at hle; split at hle <;> omega
    · have hnb := tn hb
      have := pb hb
      cases han : a.n <;> cases hbn : b.n
      · rw [han, hbn] at hle
        have := rndS_mono F m ha hb (by rw [han, hbn]) l2 l3 l1 (by simp only [Bool.false_eq_true, if_false] at hle; omega)
        rw [hna, hnb, han, hbn]; simp only [Bool.false_eq_true, if_false]; omega
      · rw [hna, hnb, han, hbn]; simp only [Bool.false_eq_true, if_false, if_true]; omega
      · rw [han, hbn] at hle; simp only [Bool.false_eq_true, if_false, if_true] at hle; omega
      · rw [han, hbn] at hle
        have := rndS_mono F m hb ha (by rw [han, hbn]) l3 l2 l1 (by simp only [if_true] at hle; omega)
        rw [hna, hnb, han, hbn]; simp only [if_true]; omega
theorem cmp_sym (a b : Dy) : cmpD b a = -cmpD a b := by
  obtain ⟨L, l1, l2, l3⟩ := low_of .s a b
  rw [cmp_iv (LoE_lt l2) (LoE_lt l3), cmp_iv (LoE_lt l3) (LoE_lt l2)]
  unfold sgI
  repeat' split
  all_goals omega

/-- How far a number is from another one, in units. -/
def distN (a b : Dy) (L : Int) : Int := if iv a L - iv b L < 0 then -(iv a L - iv b L) else iv a L - iv b L
theorem iv_abs_dist {a b : Dy} {L : Int} (la : LoE a L) (lb : LoE b L) : iv (absD (subD a b)) L = distN a b L ∧ LoE (absD (subD a b)) L := by
  obtain ⟨h1, h2⟩ := iv_sub la lb
  refine ⟨?_, h2⟩
  rw [iv_abs]
  unfold distN
  rw [← h1]
  unfold iv
  generalize (subD a b).m * 2 ^ ((subD a b).e - L).toNat = X
  cases (subD a b).n <;> simp <;> omega

end Go.Cv

/-
  The word that is told to the nearest is nearest.
-/
namespace Go.Cv

theorem dist_nn (a b : Dy) (L : Int) : 0 ≤ distN a b L := by unfold distN; split <;> omega

theorem nearest (F : Fm) {m : Int} (hm : m = 1 ∨ m = 2) {d : Dy} {o : Nat} (ho : o < 2 * F.sg) (hf : F.fin o) (hv : (rndW F m d).2 ≠ 20) :
    F.fin (rndW F m d).1 ∧ (rndW F m d).1 < 2 * F.sg ∧ cmpD (absD (subD (F.val (rndW F m d).1) d)) (absD (subD (F.val o) d)) ≤ 0 := by
  have hi := fm_i0 F
  obtain ⟨so, no, ew, o1, o2, _⟩ := word_parts ho
  have o2 := o2 hf
  obtain ⟨L, l1, l2⟩ : ∃ L : Int, L < F.low ∧ L < d.e := ⟨min F.low d.e - 1, by omega, by omega⟩
  have ld : LoE d L := LoE_lt l2
  obtain ⟨v1, v2⟩ := iv_val_L (F := F) (s := so) no o2 (L := L) (by omega)
  rw [← ew] at v1 v2
  obtain ⟨x1, x2⟩ := iv_abs_dist v2 ld
  have fin : ∀ {s : Nat} {n : Bool}, (rndW F m d).1 = s + F.sgn n → s < F.i0 → (distN (F.val (s + F.sgn n)) d L ≤ distN (F.val o) d L) →
      F.fin (rndW F m d).1 ∧ (rndW F m d).1 < 2 * F.sg ∧ cmpD (absD (subD (F.val (rndW F m d).1) d)) (absD (subD (F.val o) d)) ≤ 0 := fun {s n} e h1 h2 => by
    rw [e]
    obtain ⟨w1, w2⟩ := iv_val_L (F := F) n h1 (L := L) (by omega)
    obtain ⟨y1, y2⟩ := iv_abs_dist w2 ld
    refine ⟨fin_size n h1, word_lt n (by omega), ?_⟩
    rw [cmp_iv y2 x2, y1, x1]
    have := sgI_pos (x := distN (F.val (s + F.sgn n)) d L - distN (F.val o) d L)
    omega
  by_cases h0 : d.m = 0
  · have e : (rndW F m d).1 = 0 + F.sgn false := by unfold rndW; rw [if_pos h0]; rfl
    refine fin e (by omega) ?_
    have : distN (F.val (0 + F.sgn false)) d L = 0 := by
      unfold distN
      rw [val_zero, iv_zero rfl, iv_zero h0]; rfl
    rw [this]; exact dist_nn ..
  · obtain ⟨A, U, W, e0, u, ex, S, _⟩ := shp_of F h0 l1 l2
    obtain ⟨b, fl, r, g, R⟩ := S.all m (by omega) (by omega)
    have hov : ¬ F.i0 ≤ e0 + b.toNat := by
      intro q; rw [r, if_pos q, if_pos q] at hv; exact hv rfl
    rw [if_neg hov, if_neg hov] at r
    have e : (rndW F m d).1 = e0 + b.toNat + F.sgn d.n := by rw [r]
    refine fin e (by omega) ?_
    obtain ⟨w1, _⟩ := iv_val_L (F := F) (s := e0 + b.toNat) d.n (by omega) (L := L) (by omega)
    have hA : iv d L = (if d.n then -1 else 1) * (A : Int) := by rw [iv_num, S.hA]
    unfold distN
    rw [w1, hA, v1]
    have hw := S.worth
    have hw1 := S.worth1
    have hlo := R.lo
    have hhi := R.hi
    have hex := R.exi
    have hxb := R.xb
    obtain ⟨n1, n2⟩ := R.near hm
    have m1 : so ≤ e0 → magN F so * 2 ^ (F.low - L).toNat ≤ W * U := fun h => by rw [← hw]; exact Nat.mul_le_mul_right _ (magN_le F h)
    have m2 : ex = false → e0 + 1 ≤ so → (W + 1) * U ≤ magN F so * 2 ^ (F.low - L).toNat := fun hx h => by rw [← hw1 hx]; exact Nat.mul_le_mul_right _ (magN_le F h)
    generalize magN F so * 2 ^ (F.low - L).toNat = O at *
    have q1 : (W + 1) * U = W * U + U := by rw [Nat.add_mul, Nat.one_mul]
    have q2 : (2 * W + 1) * U = 2 * (W * U) + U := by rw [Nat.add_mul, Nat.one_mul, Nat.mul_assoc]
    rw [q1] at hhi m2
    rw [q2] at n1 n2
    clear v1 v2 x1 x2 fin r e w1 hA ld
    cases b
    · simp only [Bool.toNat_false, Nat.add_zero]
      rw [hw]
      have n2 := n2 rfl
      generalize W * U = P at *
      cases ex
      · have m2 := m2 rfl
        have hO : O ≤ P ∨ P + U ≤ O := by
          rcases Nat.lt_or_ge e0 so with h | h
          · exact Or.inr (m2 h)
          · exact Or.inl (m1 h)
        clear m1 m2 hw hw1 hex hxb hov n1
        cases d.n <;> cases no <;> simp only [Bool.false_eq_true, if_false, if_true] <;> repeat' split
        all_goals omega
      · have hE := hex.1 rfl
        clear m1 m2 hw hw1 hex hxb hov n1
        cases d.n <;> cases no <;> simp only [Bool.false_eq_true, if_false, if_true] <;> repeat' split
        all_goals omega
    · have hx : ex = false := by cases ex; rfl; exact absurd (hxb rfl) (by decide)
      subst hx
      simp only [Bool.toNat_true]
      rw [hw1 rfl, q1]
      have n1 := n1 rfl
      generalize W * U = P at *
      have m2 := m2 rfl
      have hO : O ≤ P ∨ P + U ≤ O := by
        rcases Nat.lt_or_ge e0 so with h | h
        · exact Or.inr (m2 h)
        · exact Or.inl (m1 h)
      clear m1 m2 hw hw1 hex hxb hov n2
      cases d.n <;> cases no <;> simp only [Bool.false_eq_true, if_false, if_true] <;> repeat' split
      all_goals omega
end Go.Cv

/-
  The statement on the order of numbers and words.
-/
namespace Go.Cv
variable {G : Nat → Option (List AV)} {T : Tbl} {g : Nat}

theorem law04_opens2 (hB : HasB g T) (hC : HasC g T) (hD : HasD g T) (hE : HasE g T) {f m : Int} {n z n' z' : Bool} {l l' : List Nat} (hd : Dg l) (hd' : Dg l') {e e' : Int} :
    run G T 9 [.int .u8 f, .int .u8 m, .imm 2 [.bool n, D z l, .int .i64 e, .bool n', D z' l', .int .i64 e']] = some (.int .i64 (if op0 f m = 0 then (if mayD n l e && mayD n' l' e' then 0 else 2) else op0 f m)) := by
  rw [run_k G T hE.law04_opens]
  have h1 := ref03_Is (G := G) (T := T) hD (f := f)
  have h2 := ref04_Is (G := G) (T := T) hE (m := m)
  have h3 := ref02_May (G := G) (T := T) hB hC n z hd e
  have h4 := ref02_May (G := G) (T := T) hB hC n' z' hd' e'
  simp only [A3] at *
  by_cases hop : op0 f m = 0
  · obtain ⟨a, b⟩ := op0_iff.1 hop
    rw [decide_eq_true a] at h1
    rw [decide_eq_true b] at h2
    rw [if_pos hop]
    cases hm : mayD n l e <;> cases hm' : mayD n' l' e' <;> (
      rw [hm] at h3
      rw [hm'] at h4
      repeat' (first | (simp (maxSteps := 1000000) only [evB, if_true, if_false, ne_eq, Nat.reduceEqDiff, Nat.reduceAdd, reduceCtorEq, Int.reduceLE, Int.reduceLT, Int.reduceEq, Int.reduceNeg, Int.reduceToNat, Int.reducePow, Int.reduceMod, Int.reduceDiv, Int.reduceSub, Int.reduceAdd, Int.reduceMul, Nat.reduceMul, Nat.reduceSub, Nat.reducePow, exB, resC_ptr, res_cell, nilb, nilf, faddr_p, c_law04_opens, h1, h2, h3, h4, opens_loop, c_law04_opens_b1, iad20, iad21, rd_ip]) | (simp (maxSteps := 1000000) (disch := first | with_reducible assumption | omega) only [wrap_i64, iaddr_D, rd_iptr, toNat_sub_one, toNat_add_one, sl_hi, sl_lo, iaddr_own, kM_new, sub_cells, setO_cells, sub_pre, ct_fz1, dec_t, dec_f, bv_t, bv_f, tmod_nn, tdiv_nn, bin_shl, bin_shr]) | (simp only [kI_d, kG_dt, kG_df]; split) | (simp only [kI_v, kG_vt, kG_vf]; split))
      all_goals rfl)
  · rw [if_neg hop]
    unfold op0
    by_cases a : f = 1 ∨ f = 2
    · rw [decide_eq_true a] at h1
      rw [if_neg (not_not_intro a)]
      by_cases b : 1 ≤ m ∧ m ≤ 5
      · exact absurd (op0_iff.2 ⟨a, b⟩) hop
      · rw [decide_eq_false b] at h2
        rw [if_pos b]
        repeat' (first | (simp (maxSteps := 1000000) only [evB, if_true, if_false, ne_eq, Nat.reduceEqDiff, Nat.reduceAdd, reduceCtorEq, Int.reduceLE, Int.reduceLT, Int.reduceEq, Int.reduceNeg, Int.reduceToNat, Int.reducePow, Int.reduceMod, Int.reduceDiv, Int.reduceSub, Int.reduceAdd, Int.reduceMul, Nat.reduceMul, Nat.reduceSub, Nat.reducePow, exB, resC_ptr, res_cell, nilb, nilf, faddr_p, c_law04_opens, h1, h2, opens_loop, c_law04_opens_b1]) | (simp (maxSteps := 1000000) (disch := first | with_reducible assumption | omega) only [wrap_i64, iaddr_D, rd_iptr, toNat_sub_one, toNat_add_one, sl_hi, sl_lo, iaddr_own, kM_new, sub_cells, setO_cells, sub_pre, ct_fz1, dec_t, dec_f, bv_t, bv_f, tmod_nn, tdiv_nn, bin_shl, bin_shr]) | (simp only [kI_d, kG_dt, kG_df]; split) | (simp only [kI_v, kG_vt, kG_vf]; split))
    · rw [decide_eq_false a] at h1
      rw [if_pos a]
      repeat' (first | (simp (maxSteps := 1000000) only [evB, if_true, if_false, ne_eq, Nat.reduceEqDiff, Nat.reduceAdd, reduceCtorEq, Int.reduceLE, Int.reduceLT, Int.reduceEq, Int.reduceNeg, Int.reduceToNat, Int.reducePow, Int.reduceMod, Int.reduceDiv, Int.reduceSub, Int.reduceAdd, Int.reduceMul, Nat.reduceMul, Nat.reduceSub, Nat.reducePow, exB, resC_ptr, res_cell, nilb, nilf, faddr_p, c_law04_opens, h1, h2, opens_loop, c_law04_opens_b1]) | (simp (maxSteps := 1000000) (disch := first | with_reducible assumption | omega) only [wrap_i64, iaddr_D, rd_iptr, toNat_sub_one, toNat_add_one, sl_hi, sl_lo, iaddr_own, kM_new, sub_cells, setO_cells, sub_pre, ct_fz1, dec_t, dec_f, bv_t, bv_f, tmod_nn, tdiv_nn, bin_shl, bin_shr]) | (simp only [kI_d, kG_dt, kG_df]; split) | (simp only [kI_v, kG_vt, kG_vf]; split))

theorem mayD_small {d : Dy} (h : mayD d.n (dl d.m) d.e = true) : mayD (smallD d).n (dl (smallD d).m) (smallD d).e = true := by
  unfold smallD
  by_cases h0 : d.m = 0
  · rw [if_pos h0]; exact h
  · rw [if_neg h0]
    simp only [mayD] at h ⊢
    have h1 : ¬ (dl d.m).length = 0 := by rw [dl_len0]; exact h0
    rw [if_neg h1] at h ⊢
    have h2 : -16777216 ≤ d.e.tmod 1200 ∧ d.e.tmod 1200 ≤ 16777216 := by
      have := Int.tmod_lt_of_pos d.e (show (0 : Int) < 1200 by decide)
      have h3 : -1200 < d.e.tmod 1200 := by
        have := Int.tmod_lt_of_pos (-d.e) (show (0 : Int) < 1200 by decide)
        rw [Int.neg_tmod] at this; omega
      omega
    simp only [Bool.and_eq_true, decide_eq_true_eq] at h ⊢
    exact ⟨h.1, h.2.1, h2.1, h2.2⟩
theorem Bd_may {d : Dy} (h : mayD d.n (dl d.m) d.e = true) : Bd d 34359738368 := by
  obtain ⟨f1, _, _, f4, f5⟩ := mayD_facts h
  have := may_blen f1
  exact ⟨by omega, by omega, by omega⟩
theorem cmpD_val (a b : Dy) : cmpD a b = -1 ∨ cmpD a b = 0 ∨ cmpD a b = 1 := by
  obtain ⟨L, l1, l2, l3⟩ := low_of .s a b
  rw [cmp_iv (LoE_lt l2) (LoE_lt l3)]
  unfold sgI
  repeat' split
  all_goals omega
theorem word_kind (F : Fm) {m : Int} (b : 1 ≤ m ∧ m ≤ 5) (d : Dy) : (rndW F m d).1 < 18446744073709551616 ∧ (F.fin (rndW F m d).1 ∨ (rndW F m d).1 = F.inf false ∨ (rndW F m d).1 = F.inf true) := by
  have hi := fm_i0 F
  obtain ⟨s, n, e, hs, _⟩ := rndW_key F b.1 b.2 d
  rw [e]
  refine ⟨by have := word_lt (F := F) n hs; omega, ?_⟩
  rcases Nat.lt_or_ge s F.i0 with h | h
  · exact Or.inl (fin_size n h)
  · right
    obtain rfl : s = F.i0 := by omega
    cases n
    · exact Or.inl rfl
    · exact Or.inr rfl

set_option maxHeartbeats 4000000 in
theorem law04_RoundOrder (hA : HasA g T) (hB : HasB g T) (hC : HasC g T) (hG : Glob G g) (hD : HasD g T) (hE : HasE g T) (hT : HasF g T) (hK : run G T 5 [] = some (.bool true))
    {f m : Int} {n z n' z' : Bool} {l l' : List Nat} {e e' : Int} (hl : Dg l) (hl' : Dg l') :
    run G T 143 [.int .u8 f, .int .u8 m, A3 n (D z l) e, A3 n' (D z' l') e'] = some (.bool true) := by
  rw [run_k G T hT.law04_RoundOrder]
  have h1 := law04_long (G := G) (T := T) hE (n := n) (z := z) (l := l) (e := e)
  have h1' := law04_long (G := G) (T := T) hE (n := n') (z := z') (l := l') (e := e')
  by_cases hlong : 300 < l.length
  · rw [decide_eq_true hlong] at h1
    simp only [A3] at *
    repeat' (first | (simp (maxSteps := 1000000) only [evB, if_true, if_false, ne_eq, Nat.reduceEqDiff, Nat.reduceAdd, reduceCtorEq, Int.reduceLE, Int.reduceLT, Int.reduceEq, Int.reduceNeg, Int.reduceToNat, Int.reducePow, Int.reduceMod, Int.reduceDiv, Int.reduceSub, Int.reduceAdd, Int.reduceMul, Nat.reduceMul, Nat.reduceSub, Nat.reducePow, exB, resC_ptr, res_cell, nilb, nilf, faddr_p, c_law04_RoundOrder, h1, h1', hK]) | (simp (maxSteps := 1000000) (disch := first | with_reducible assumption | omega) only [wrap_i64, iaddr_D, rd_iptr, toNat_sub_one, toNat_add_one, sl_hi, sl_lo, iaddr_own, kM_new, sub_cells, setO_cells, sub_pre, ct_fz1, dec_t, dec_f, bv_t, bv_f, tmod_nn, tdiv_nn, bin_shl, bin_shr]) | (simp only [kI_d, kG_dt, kG_df]; split) | (simp only [kI_v, kG_vt, kG_vf]; split))
  · rw [decide_eq_false hlong] at h1
    by_cases hlong' : 300 < l'.length
    · rw [decide_eq_true hlong'] at h1'
      simp only [A3] at *
      repeat' (first | (simp (maxSteps := 1000000) only [evB, if_true, if_false, ne_eq, Nat.reduceEqDiff, Nat.reduceAdd, reduceCtorEq, Int.reduceLE, Int.reduceLT, Int.reduceEq, Int.reduceNeg, Int.reduceToNat, Int.reducePow, Int.reduceMod, Int.reduceDiv, Int.reduceSub, Int.reduceAdd, Int.reduceMul, Nat.reduceMul, Nat.reduceSub, Nat.reducePow, exB, resC_ptr, res_cell, nilb, nilf, faddr_p, c_law04_RoundOrder, h1, h1', hK]) | (simp (maxSteps := 1000000) (disch := first | with_reducible assumption | omega) only [wrap_i64, iaddr_D, rd_iptr, toNat_sub_one, toNat_add_one, sl_hi, sl_lo, iaddr_own, kM_new, sub_cells, setO_cells, sub_pre, ct_fz1, dec_t, dec_f, bv_t, bv_f, tmod_nn, tdiv_nn, bin_shl, bin_shr]) | (simp only [kI_d, kG_dt, kG_df]; split) | (simp only [kI_v, kG_vt, kG_vf]; split))
    · rw [decide_eq_false hlong'] at h1'
      have o1 := law04_opens2 (G := G) (T := T) hB hC hD hE (f := f) (m := m) (n := n) (z := z) (n' := n') (z' := z') hl hl' (e := e) (e' := e')
      by_cases hop : op0 f m = 0
      · obtain ⟨a, b⟩ := op0_iff.1 hop
        obtain ⟨F, rfl⟩ := fm_of a
        rw [if_pos hop] at o1
        by_cases hm : (mayD n l e && mayD n' l' e') = true
        · rw [hm, if_pos rfl] at o1
          obtain ⟨hm1, hm2⟩ := Bool.and_eq_true_iff.1 hm
          obtain ⟨M, rfl⟩ : ∃ M, l = dl M := ⟨val l, (dl_val hl (mayL_iff.1 (mayD_facts hm1).1).2).symm⟩
          obtain ⟨M', rfl⟩ : ∃ M, l' = dl M := ⟨val l', (dl_val hl' (mayL_iff.1 (mayD_facts hm2).1).2).symm⟩
          have s1 := law04_small (G := G) (T := T) hT (z := z) (d := ⟨n, M, e⟩)
          have s2 := law04_small (G := G) (T := T) hT (z := z') (d := ⟨n', M', e'⟩)
          have y1 := mayD_small (d := ⟨n, M, e⟩) hm1
          have y2 := mayD_small (d := ⟨n', M', e'⟩) hm2
          generalize smallD ⟨n, M, e⟩ = a at *
          generalize smallD ⟨n', M', e'⟩ = b' at *
          have r1 := round_Round (G := G) (T := T) hA hC hG hD hE F b (z := z) (d := a) y1
          have r2 := round_Round (G := G) (T := T) hA hC hG hD hE F b (z := z') (d := b') y2
          have c := ref02_Cmp (G := G) (T := T) hB hC (z := z) (y := z') (a := a) (b := b') (Bd_may y1) (Bd_may y2)
          obtain ⟨k1, k2⟩ := word_kind F b a
          obtain ⟨k3, k4⟩ := word_kind F b b'
          have ab1 := law04_above (G := G) (T := T) hA hB hC hD hT F k1 k3 k2 k4
          have ab2 := law04_above (G := G) (T := T) hA hB hC hD hT F k3 k1 k4 k2
          have p1 : 0 ≤ cmpD a b' → aboveW F (rndW F m a).1 (rndW F m b').1 = true := order F b.1 b.2
          have p2 : cmpD a b' ≤ 0 → aboveW F (rndW F m b').1 (rndW F m a).1 = true := fun h => order F b.1 b.2 (by rw [cmp_sym]; omega)
          clear k1 k2 k3 k4 y1 y2 hm hm1 hm2 hl hl'
          have cv := cmpD_val a b'
          generalize cmpD a b' = cc at *
          generalize rndW F m a = q1 at *
          generalize rndW F m b' = q2 at *
          obtain ⟨w1, x1⟩ := q1
          obtain ⟨w2, x2⟩ := q2
          simp only at *
          generalize aboveW F w1 w2 = A1 at *
          generalize aboveW F w2 w1 = A2 at *
          rcases cv with rfl | rfl | rfl
          · have p2 := p2 (by decide)
            subst p2
            clear p1
            simp only [DyA, A3] at *
            repeat' (first | (simp (maxSteps := 1000000) only [evB, if_true, if_false, ne_eq, Nat.reduceEqDiff, Nat.reduceAdd, reduceCtorEq, Int.reduceLE, Int.reduceLT, Int.reduceEq, Int.reduceNeg, Int.reduceToNat, Int.reducePow, Int.reduceMod, Int.reduceDiv, Int.reduceSub, Int.reduceAdd, Int.reduceMul, Nat.reduceMul, Nat.reduceSub, Nat.reducePow, exB, resC_ptr, res_cell, nilb, nilf, faddr_p, c_law04_RoundOrder, h1, h1', hK, o1, s1, s2, r1, r2, c, ab1, ab2]) | (simp (maxSteps := 1000000) (disch := first | with_reducible assumption | omega) only [wrap_i64, iaddr_D, rd_iptr, toNat_sub_one, toNat_add_one, sl_hi, sl_lo, iaddr_own, kM_new, sub_cells, setO_cells, sub_pre, ct_fz1, dec_t, dec_f, bv_t, bv_f, tmod_nn, tdiv_nn, bin_shl, bin_shr]) | (simp only [kI_d, kG_dt, kG_df]; split) | (simp only [kI_v, kG_vt, kG_vf]; split))
          · have p2 := p2 (by decide)
            have p1 := p1 (by decide)
            subst p1 p2
            simp only [DyA, A3] at *
            repeat' (first | (simp (maxSteps := 1000000) only [evB, if_true, if_false, ne_eq, Nat.reduceEqDiff, Nat.reduceAdd, reduceCtorEq, Int.reduceLE, Int.reduceLT, Int.reduceEq, Int.reduceNeg, Int.reduceToNat, Int.reducePow, Int.reduceMod, Int.reduceDiv, Int.reduceSub, Int.reduceAdd, Int.reduceMul, Nat.reduceMul, Nat.reduceSub, Nat.reducePow, exB, resC_ptr, res_cell, nilb, nilf, faddr_p, c_law04_RoundOrder, h1, h1', hK, o1, s1, s2, r1, r2, c, ab1, ab2]) | (simp (maxSteps := 1000000) (disch := first | with_reducible assumption | omega) only [wrap_i64, iaddr_D, rd_iptr, toNat_sub_one, toNat_add_one, sl_hi, sl_lo, iaddr_own, kM_new, sub_cells, setO_cells, sub_pre, ct_fz1, dec_t, dec_f, bv_t, bv_f, tmod_nn, tdiv_nn, bin_shl, bin_shr]) | (simp only [kI_d, kG_dt, kG_df]; split) | (simp only [kI_v, kG_vt, kG_vf]; split))
          · have p1 := p1 (by decide)
            subst p1
            clear p2
            simp only [DyA, A3] at *
            repeat' (first | (simp (maxSteps := 1000000) only [evB, if_true, if_false, ne_eq, Nat.reduceEqDiff, Nat.reduceAdd, reduceCtorEq, Int.reduceLE, Int.reduceLT, Int.reduceEq, Int.reduceNeg, Int.reduceToNat, Int.reducePow, Int.reduceMod, Int.reduceDiv, Int.reduceSub, Int.reduceAdd, Int.reduceMul, Nat.reduceMul, Nat.reduceSub, Nat.reducePow, exB, resC_ptr, res_cell, nilb, nilf, faddr_p, c_law04_RoundOrder, h1, h1', hK, o1, s1, s2, r1, r2, c, ab1, ab2]) | (simp (maxSteps := 1000000) (disch := first | with_reducible assumption | omega) only [wrap_i64, iaddr_D, rd_iptr, toNat_sub_one, toNat_add_one, sl_hi, sl_lo, iaddr_own, kM_new, sub_cells, setO_cells, sub_pre, ct_fz1, dec_t, dec_f, bv_t, bv_f, tmod_nn, tdiv_nn, bin_shl, bin_shr]) | (simp only [kI_d, kG_dt, kG_df]; split) | (simp only [kI_v, kG_vt, kG_vf]; split))
        · rw [if_neg hm] at o1
          simp only [A3] at *
          repeat' (first | (simp (maxSteps := 1000000) only [evB, if_true, if_false, ne_eq, Nat.reduceEqDiff, Nat.reduceAdd, reduceCtorEq, Int.reduceLE, Int.reduceLT, Int.reduceEq, Int.reduceNeg, Int.reduceToNat, Int.reducePow, Int.reduceMod, Int.reduceDiv, Int.reduceSub, Int.reduceAdd, Int.reduceMul, Nat.reduceMul, Nat.reduceSub, Nat.reducePow, exB, resC_ptr, res_cell, nilb, nilf, faddr_p, c_law04_RoundOrder, h1, h1', hK, o1]) | (simp (maxSteps := 1000000) (disch := first | with_reducible assumption | omega) only [wrap_i64, iaddr_D, rd_iptr, toNat_sub_one, toNat_add_one, sl_hi, sl_lo, iaddr_own, kM_new, sub_cells, setO_cells, sub_pre, ct_fz1, dec_t, dec_f, bv_t, bv_f, tmod_nn, tdiv_nn, bin_shl, bin_shr]) | (simp only [kI_d, kG_dt, kG_df]; split) | (simp only [kI_v, kG_vt, kG_vf]; split))
      · rw [if_neg hop] at o1
        simp only [A3] at *
        repeat' (first | (simp (maxSteps := 1000000) only [evB, if_true, if_false, ne_eq, Nat.reduceEqDiff, Nat.reduceAdd, reduceCtorEq, Int.reduceLE, Int.reduceLT, Int.reduceEq, Int.reduceNeg, Int.reduceToNat, Int.reducePow, Int.reduceMod, Int.reduceDiv, Int.reduceSub, Int.reduceAdd, Int.reduceMul, Nat.reduceMul, Nat.reduceSub, Nat.reducePow, exB, resC_ptr, res_cell, nilb, nilf, faddr_p, c_law04_RoundOrder, h1, h1', hK, o1]) | (simp (maxSteps := 1000000) (disch := first | with_reducible assumption | omega) only [wrap_i64, iaddr_D, rd_iptr, toNat_sub_one, toNat_add_one, sl_hi, sl_lo, iaddr_own, kM_new, sub_cells, setO_cells, sub_pre, ct_fz1, dec_t, dec_f, bv_t, bv_f, tmod_nn, tdiv_nn, bin_shl, bin_shr]) | (simp only [kI_d, kG_dt, kG_df]; split) | (simp only [kI_v, kG_vt, kG_vf]; split))
end Go.Cv

/-
  The statement on the nearest word.
-/
namespace Go.Cv
variable {G : Nat → Option (List AV)} {T : Tbl} {g : Nat}

theorem flag_val (F : Fm) (m : Int) (d : Dy) : (rndW F m d).2 = 0 ∨ (rndW F m d).2 = 16 ∨ (rndW F m d).2 = 20 ∨ (rndW F m d).2 = 24 := by
  unfold rndW wordOf
  simp only
  repeat' split
  all_goals simp
theorem and4_20 : andI .u8 20 4 = 4 := by rw [andI_eq]; rfl
theorem and4_no {x : Nat} (h : x = 0 ∨ x = 16 ∨ x = 24) : andI .u8 (x : Int) 4 = 0 := by
  rw [andI_eq]; rcases h with rfl | rfl | rfl <;> rfl
theorem nearest_loop : ∀ (e : Env) (h : Heap), evL G T c_law04_RoundNearest_l1 e h = kS G T (evL G T c_law04_RoundNearest_b1 (keepE [0, 4, 7, 42, 43, 44] e) h) c_law04_RoundNearest_l1 := fun e h => s_loopc G T (c := c_law04_RoundNearest_l1) rfl e h
theorem Bd_may2 {d : Dy} (h : mayD d.n (dl d.m) d.e = true) : Bd d 16777216 := by
  obtain ⟨f1, _, _, f4, f5⟩ := mayD_facts h
  have := may_blen f1
  exact ⟨by omega, by omega, by omega⟩

/-- What one round of the loop asks. -/
theorem near_step (hA : HasA g T) (hB : HasB g T) (hC : HasC g T) (hG : Glob G g) (hD : HasD g T) (hE : HasE g T) (hT : HasF g T) (F : Fm) {m : Int} (hm : m = 1 ∨ m = 2) {z : Bool} {a : Dy} (ha : mayD a.n (dl a.m) a.e = true)
    {o : Nat} (ho : o < 2 * F.sg) (hf : F.fin o) {z5 : Bool} (fz : Bd (absD (subD (F.val o) a)) 34359738368) :
    ((rndW F m a).2 = 20) ∨ (andI .u8 ((rndW F m a).2 : Int) 4 = 0 ∧ run G T 150 [.int .u8 F.u, .int .u64 ((rndW F m a).1 : Int)] = some (.bool true) ∧
      ∃ z2 z3, run G T 151 [.int .u8 F.u, .int .u64 ((rndW F m a).1 : Int)] = some (DyA z2 (F.val (rndW F m a).1)) ∧
        run G T 70 [DyA z2 (F.val (rndW F m a).1), DyA z a] = some (DyA z3 (subD (F.val (rndW F m a).1) a)) ∧
        run G T 37 [DyA z3 (subD (F.val (rndW F m a).1) a)] = some (DyA z3 (absD (subD (F.val (rndW F m a).1) a))) ∧
        ∃ c, c ≤ 0 ∧ run G T 69 [DyA z3 (absD (subD (F.val (rndW F m a).1) a)), DyA z5 (absD (subD (F.val o) a))] = some (.int .i64 c)) := by
  have hi := fm_i0 F
  by_cases h20 : (rndW F m a).2 = 20
  · exact Or.inl h20
  · right
    obtain ⟨n1, n2, n3⟩ := nearest F hm ho hf h20
    have b1 : Bd (F.val (rndW F m a).1) 16777216 := (Bd_val F n1).mono (by decide)
    have b2 := Bd_may2 ha
    have b3 := ((Bd_sub b1 b2).abs).mono (by decide : 4 * 16777216 + 1 ≤ 34359738368)
    obtain ⟨z2, v⟩ := ref03_Value (G := G) (T := T) hA hB hC hD hT F (by omega : (rndW F m a).1 < 18446744073709551616) n1
    obtain ⟨z3, s⟩ := ref02_Sub (G := G) (T := T) hB hC (z := z2) (y := z) (b1.mono (by decide)) (b2.mono (by decide))
    refine ⟨and4_no ?_, ?_, z2, z3, v, s, ref02_Abs hC, _, n3, ref02_Cmp hB hC b3 fz⟩
    · rcases flag_val F m a with h | h | h | h
      · exact Or.inl h
      · exact Or.inr (Or.inl h)
      · exact absurd h h20
      · exact Or.inr (Or.inr h)
    · rw [ref03_Finite (G := G) (T := T) hD hT F (by omega), decide_eq_true n1]

set_option maxHeartbeats 4000000 in
theorem law04_RoundNearest (hA : HasA g T) (hB : HasB g T) (hC : HasC g T) (hG : Glob G g) (hD : HasD g T) (hE : HasE g T) (hT : HasF g T) (hK : run G T 5 [] = some (.bool true))
    {f : Int} {n z : Bool} {l : List Nat} {e : Int} {w : Nat} (hl : Dg l) (hw : w < 18446744073709551616) :
    run G T 142 [.int .u8 f, A3 n (D z l) e, .int .u64 (w : Int)] = some (.bool true) := by
  rw [run_k G T hT.law04_RoundNearest]
  have h1 := law04_long (G := G) (T := T) hE (n := n) (z := z) (l := l) (e := e)
  by_cases hlong : 300 < l.length
  · rw [decide_eq_true hlong] at h1
    simp only [A3] at *
    repeat' (first | (simp (maxSteps := 1000000) only [evB, if_true, if_false, ne_eq, Nat.reduceEqDiff, Nat.reduceAdd, reduceCtorEq, Int.reduceLE, Int.reduceLT, Int.reduceEq, Int.reduceNeg, Int.reduceToNat, Int.reducePow, Int.reduceMod, Int.reduceDiv, Int.reduceSub, Int.reduceAdd, Int.reduceMul, Nat.reduceMul, Nat.reduceSub, Nat.reducePow, exB, resC_ptr, res_cell, nilb, nilf, faddr_p, c_law04_RoundNearest, h1, hK]) | (simp (maxSteps := 1000000) (disch := first | with_reducible assumption | omega) only [wrap_i64, iaddr_D, rd_iptr, toNat_sub_one, toNat_add_one, sl_hi, sl_lo, iaddr_own, kM_new, sub_cells, setO_cells, sub_pre, ct_fz1, dec_t, dec_f, bv_t, bv_f, tmod_nn, tdiv_nn, bin_shl, bin_shr]) | (simp only [kI_d, kG_dt, kG_df]; split) | (simp only [kI_v, kG_vt, kG_vf]; split))
  · rw [decide_eq_false hlong] at h1
    have o1 := law04_opens1 (G := G) (T := T) hB hC hD hE (f := f) (m := 1) (n := n) (z := z) hl (e := e)
    by_cases hop : op0 f 1 = 0
    · obtain ⟨a, b⟩ := op0_iff.1 hop
      obtain ⟨F, rfl⟩ := fm_of a
      rw [if_pos hop] at o1
      have gd := ref03_Good (G := G) (T := T) hD hT F hw
      by_cases hm : mayD n l e = true
      · rw [hm, if_pos rfl] at o1
        by_cases hw2 : w < 2 * F.sg
        · rw [if_pos hw2] at gd
          have fi := ref03_Finite (G := G) (T := T) hD hT F hw
          by_cases hf : F.fin w
          · rw [decide_eq_true hf] at fi
            obtain ⟨M, rfl⟩ : ∃ M, l = dl M := ⟨val l, (dl_val hl (mayL_iff.1 (mayD_facts hm).1).2).symm⟩
            have s1 := law04_small (G := G) (T := T) hT (z := z) (d := ⟨n, M, e⟩)
            have y1 := mayD_small (d := ⟨n, M, e⟩) hm
            generalize smallD ⟨n, M, e⟩ = a at *
            have b1 : Bd (F.val w) 16777216 := (Bd_val F hf).mono (by decide)
            have b2 := Bd_may2 y1
            have b3 := ((Bd_sub b1 b2).abs).mono (by decide : 4 * 16777216 + 1 ≤ 34359738368)
            obtain ⟨z4, v⟩ := ref03_Value (G := G) (T := T) hA hB hC hD hT F hw hf
            obtain ⟨z5, sb⟩ := ref02_Sub (G := G) (T := T) hB hC (z := z4) (y := z) (b1.mono (by decide)) (b2.mono (by decide))
            have ab := ref02_Abs (G := G) (T := T) hC (z := z5) (d := subD (F.val w) a)
            have r1 := round_Round (G := G) (T := T) hA hC hG hD hE F (m := 1) (by decide) (z := z) (d := a) y1
            have r2 := round_Round (G := G) (T := T) hA hC hG hD hE F (m := 2) (by decide) (z := z) (d := a) y1
            have n1 := near_step (G := G) (T := T) hA hB hC hG hD hE hT F (m := 1) (Or.inl rfl) (z := z) y1 hw2 hf (z5 := z5) b3
            have n2 := near_step (G := G) (T := T) hA hB hC hG hD hE hT F (m := 2) (Or.inr rfl) (z := z) y1 hw2 hf (z5 := z5) b3
            clear b1 b2 b3 y1 hm hl hf
            generalize absD (subD (F.val w) a) = fr at *
            generalize subD (F.val w) a = sw at *
            generalize F.val w = vw at *
            generalize rndW F 1 a = q1 at *
            generalize rndW F 2 a = q2 at *
            obtain ⟨w1, x1⟩ := q1
            obtain ⟨w2, x2⟩ := q2
            simp only [DyA, A3] at *
            have a20 := and4_20
            rcases n1 with k1 | ⟨k1, k2, z6, z7, k3, k4, k5, c1, k6, k7⟩ <;> rcases n2 with j1 | ⟨j1, j2, z8, z9, j3, j4, j5, c2, j6, j7⟩
            · subst k1 j1
              simp only [Int.cast_ofNat_Int] at r1 r2
              repeat' (first | (simp (maxSteps := 1000000) only [evB, if_true, if_false, ne_eq, Nat.reduceEqDiff, Nat.reduceAdd, reduceCtorEq, Int.reduceLE, Int.reduceLT, Int.reduceEq, Int.reduceNeg, Int.reduceToNat, Int.reducePow, Int.reduceMod, Int.reduceDiv, Int.reduceSub, Int.reduceAdd, Int.reduceMul, Nat.reduceMul, Nat.reduceSub, Nat.reducePow, exB, resC_ptr, res_cell, nilb, nilf, faddr_p, c_law04_RoundNearest, h1, hK, o1, gd, fi, s1, v, sb, ab, r1, r2, nearest_loop, c_law04_RoundNearest_b1, a20]) | (simp (maxSteps := 1000000) (disch := first | with_reducible assumption | omega) only [wrap_i64, iaddr_D, rd_iptr, toNat_sub_one, toNat_add_one, sl_hi, sl_lo, iaddr_own, kM_new, sub_cells, setO_cells, sub_pre, ct_fz1, dec_t, dec_f, bv_t, bv_f, tmod_nn, tdiv_nn, bin_shl, bin_shr]) | (simp only [kI_d, kG_dt, kG_df]; split) | (simp only [kI_v, kG_vt, kG_vf]; split))
            · subst k1
              simp only [Int.cast_ofNat_Int] at r1
              repeat' (first | (simp (maxSteps := 1000000) only [evB, if_true, if_false, ne_eq, Nat.reduceEqDiff, Nat.reduceAdd, reduceCtorEq, Int.reduceLE, Int.reduceLT, Int.reduceEq, Int.reduceNeg, Int.reduceToNat, Int.reducePow, Int.reduceMod, Int.reduceDiv, Int.reduceSub, Int.reduceAdd, Int.reduceMul, Nat.reduceMul, Nat.reduceSub, Nat.reducePow, exB, resC_ptr, res_cell, nilb, nilf, faddr_p, c_law04_RoundNearest, h1, hK, o1, gd, fi, s1, v, sb, ab, r1, r2, nearest_loop, c_law04_RoundNearest_b1, a20, j1, j2, j3, j4, j5, j7]) | (simp (maxSteps := 1000000) (disch := first | with_reducible assumption | omega) only [wrap_i64, iaddr_D, rd_iptr, toNat_sub_one, toNat_add_one, sl_hi, sl_lo, iaddr_own, kM_new, sub_cells, setO_cells, sub_pre, ct_fz1, dec_t, dec_f, bv_t, bv_f, tmod_nn, tdiv_nn, bin_shl, bin_shr]) | (simp only [kI_d, kG_dt, kG_df]; split) | (simp only [kI_v, kG_vt, kG_vf]; split))
            · subst j1
              simp only [Int.cast_ofNat_Int] at r2
              repeat' (first | (simp (maxSteps := 1000000) only [evB, if_true, if_false, ne_eq, Nat.reduceEqDiff, Nat.reduceAdd, reduceCtorEq, Int.reduceLE, Int.reduceLT, Int.reduceEq, Int.reduceNeg, Int.reduceToNat, Int.reducePow, Int.reduceMod, Int.reduceDiv, Int.reduceSub, Int.reduceAdd, Int.reduceMul, Nat.reduceMul, Nat.reduceSub, Nat.reducePow, exB, resC_ptr, res_cell, nilb, nilf, faddr_p, c_law04_RoundNearest, h1, hK, o1, gd, fi, s1, v, sb, ab, r1, r2, nearest_loop, c_law04_RoundNearest_b1, a20, k1, k2, k3, k4, k5, k7]) | (simp (maxSteps := 1000000) (disch := first | with_reducible assumption | omega) only [wrap_i64, iaddr_D, rd_iptr, toNat_sub_one, toNat_add_one, sl_hi, sl_lo, iaddr_own, kM_new, sub_cells, setO_cells, sub_pre, ct_fz1, dec_t, dec_f, bv_t, bv_f, tmod_nn, tdiv_nn, bin_shl, bin_shr]) | (simp only [kI_d, kG_dt, kG_df]; split) | (simp only [kI_v, kG_vt, kG_vf]; split))
            · repeat' (first | (simp (maxSteps := 1000000) only [evB, if_true, if_false, ne_eq, Nat.reduceEqDiff, Nat.reduceAdd, reduceCtorEq, Int.reduceLE, Int.reduceLT, Int.reduceEq, Int.reduceNeg, Int.reduceToNat, Int.reducePow, Int.reduceMod, Int.reduceDiv, Int.reduceSub, Int.reduceAdd, Int.reduceMul, Nat.reduceMul, Nat.reduceSub, Nat.reducePow, exB, resC_ptr, res_cell, nilb, nilf, faddr_p, c_law04_RoundNearest, h1, hK, o1, gd, fi, s1, v, sb, ab, r1, r2, nearest_loop, c_law04_RoundNearest_b1, k1, k2, k3, k4, k5, k7, j1, j2, j3, j4, j5, j7]) | (simp (maxSteps := 1000000) (disch := first | with_reducible assumption | omega) only [wrap_i64, iaddr_D, rd_iptr, toNat_sub_one, toNat_add_one, sl_hi, sl_lo, iaddr_own, kM_new, sub_cells, setO_cells, sub_pre, ct_fz1, dec_t, dec_f, bv_t, bv_f, tmod_nn, tdiv_nn, bin_shl, bin_shr]) | (simp only [kI_d, kG_dt, kG_df]; split) | (simp only [kI_v, kG_vt, kG_vf]; split))
          · rw [decide_eq_false hf] at fi
            simp only [A3] at *
            repeat' (first | (simp (maxSteps := 1000000) only [evB, if_true, if_false, ne_eq, Nat.reduceEqDiff, Nat.reduceAdd, reduceCtorEq, Int.reduceLE, Int.reduceLT, Int.reduceEq, Int.reduceNeg, Int.reduceToNat, Int.reducePow, Int.reduceMod, Int.reduceDiv, Int.reduceSub, Int.reduceAdd, Int.reduceMul, Nat.reduceMul, Nat.reduceSub, Nat.reducePow, exB, resC_ptr, res_cell, nilb, nilf, faddr_p, c_law04_RoundNearest, h1, hK, o1, gd, fi]) | (simp (maxSteps := 1000000) (disch := first | with_reducible assumption | omega) only [wrap_i64, iaddr_D, rd_iptr, toNat_sub_one, toNat_add_one, sl_hi, sl_lo, iaddr_own, kM_new, sub_cells, setO_cells, sub_pre, ct_fz1, dec_t, dec_f, bv_t, bv_f, tmod_nn, tdiv_nn, bin_shl, bin_shr]) | (simp only [kI_d, kG_dt, kG_df]; split) | (simp only [kI_v, kG_vt, kG_vf]; split))
        · rw [if_neg hw2] at gd
          simp only [A3] at *
          repeat' (first | (simp (maxSteps := 1000000) only [evB, if_true, if_false, ne_eq, Nat.reduceEqDiff, Nat.reduceAdd, reduceCtorEq, Int.reduceLE, Int.reduceLT, Int.reduceEq, Int.reduceNeg, Int.reduceToNat, Int.reducePow, Int.reduceMod, Int.reduceDiv, Int.reduceSub, Int.reduceAdd, Int.reduceMul, Nat.reduceMul, Nat.reduceSub, Nat.reducePow, exB, resC_ptr, res_cell, nilb, nilf, faddr_p, c_law04_RoundNearest, h1, hK, o1, gd]) | (simp (maxSteps := 1000000) (disch := first | with_reducible assumption | omega) only [wrap_i64, iaddr_D, rd_iptr, toNat_sub_one, toNat_add_one, sl_hi, sl_lo, iaddr_own, kM_new, sub_cells, setO_cells, sub_pre, ct_fz1, dec_t, dec_f, bv_t, bv_f, tmod_nn, tdiv_nn, bin_shl, bin_shr]) | (simp only [kI_d, kG_dt, kG_df]; split) | (simp only [kI_v, kG_vt, kG_vf]; split))
      · have hm' : mayD n l e = false := by simpa using hm
        rw [hm', if_neg (by decide)] at o1
        simp only [A3] at *
        repeat' (first | (simp (maxSteps := 1000000) only [evB, if_true, if_false, ne_eq, Nat.reduceEqDiff, Nat.reduceAdd, reduceCtorEq, Int.reduceLE, Int.reduceLT, Int.reduceEq, Int.reduceNeg, Int.reduceToNat, Int.reducePow, Int.reduceMod, Int.reduceDiv, Int.reduceSub, Int.reduceAdd, Int.reduceMul, Nat.reduceMul, Nat.reduceSub, Nat.reducePow, exB, resC_ptr, res_cell, nilb, nilf, faddr_p, c_law04_RoundNearest, h1, hK, o1]) | (simp (maxSteps := 1000000) (disch := first | with_reducible assumption | omega) only [wrap_i64, iaddr_D, rd_iptr, toNat_sub_one, toNat_add_one, sl_hi, sl_lo, iaddr_own, kM_new, sub_cells, setO_cells, sub_pre, ct_fz1, dec_t, dec_f, bv_t, bv_f, tmod_nn, tdiv_nn, bin_shl, bin_shr]) | (simp only [kI_d, kG_dt, kG_df]; split) | (simp only [kI_v, kG_vt, kG_vf]; split))
    · rw [if_neg hop] at o1
      simp only [A3] at *
      repeat' (first | (simp (maxSteps := 1000000) only [evB, if_true, if_false, ne_eq, Nat.reduceEqDiff, Nat.reduceAdd, reduceCtorEq, Int.reduceLE, Int.reduceLT, Int.reduceEq, Int.reduceNeg, Int.reduceToNat, Int.reducePow, Int.reduceMod, Int.reduceDiv, Int.reduceSub, Int.reduceAdd, Int.reduceMul, Nat.reduceMul, Nat.reduceSub, Nat.reducePow, exB, resC_ptr, res_cell, nilb, nilf, faddr_p, c_law04_RoundNearest, h1, hK, o1]) | (simp (maxSteps := 1000000) (disch := first | with_reducible assumption | omega) only [wrap_i64, iaddr_D, rd_iptr, toNat_sub_one, toNat_add_one, sl_hi, sl_lo, iaddr_own, kM_new, sub_cells, setO_cells, sub_pre, ct_fz1, dec_t, dec_f, bv_t, bv_f, tmod_nn, tdiv_nn, bin_shl, bin_shr]) | (simp only [kI_d, kG_dt, kG_df]; split) | (simp only [kI_v, kG_vt, kG_vf]; split))
end Go.Cv
