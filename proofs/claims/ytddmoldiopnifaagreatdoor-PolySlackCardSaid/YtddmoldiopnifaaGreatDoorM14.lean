/-
 A part of the proof of the statements of this seat (texts that the law's own text leans on): no condition.
-/
import Derived.Test.YtddmoldiopnifaaGreatDoorM12
import Derived.Test.YtddmoldiopnifaaGreatDoorM13
import Derived.Test.YtddmoldiopnifaaGreatDoorM11
import Derived.Test.YtddmoldiopnifaaGreatDoorM7
set_option linter.unusedVariables false
set_option linter.unusedSimpArgs false
namespace Go.Cv
def P2 (k : Nat) : Int:=((2 ^ k : Nat) : Int)
theorem ZuO (k : Nat) : 0 < P2 k:=by unfold P2; have:=Nat.two_pow_pos k; omega
theorem ZuN {i k : Nat} (h : i≤k) : P2 i ∣ P2 k:=by
 unfold P2; exact Int.natCast_dvd_natCast.2 (Nat.pow_dvd_pow 2 h)
def bl (n : Int) : Nat:=blen n.natAbs
theorem ZEN {n : Int} {k : Nat} : bl n≤k↔(n < P2 k∧-n < P2 k):=by
 unfold bl P2; rw [Zaf]; omega
theorem ZEL {n : Int} (h : n≠0) : P2 (bl n - 1)≤n∨P2 (bl n - 1)≤-n:=by
 unfold bl P2; have:=ZaW (n:=n.natAbs) (by omega); omega
theorem Zzl (n : Int) : bl (-n) = bl n:=by unfold bl; rw [Int.natAbs_neg]
theorem ZpR {k : Nat} {x : Int} (h : P2 k ∣ x) (h1 : x < P2 k) (h2 : -x < P2 k) : x = 0:=by
 obtain ⟨q,rfl⟩:=h
 have hp:=ZuO k
 rcases Int.lt_trichotomy q 0 with hq | hq | hq
 ·have:=Int.mul_le_mul_of_nonneg_left (show q≤-1 by omega) (Int.le_of_lt hp); omega
 ·rw [hq,Int.mul_zero]
 ·have:=Int.mul_le_mul_of_nonneg_left (show 1≤q by omega) (Int.le_of_lt hp); omega
def Rep (p : Nat) (n : Int) : Prop:=P2 (bl n - p) ∣ n
def Rn (p : Nat) (n r : Int) : Prop:=Rep p r∧P2 (bl n - p) ∣ r∧2 * (r - n)≤P2 (bl n - p)∧2 * (n - r)≤P2 (bl n - p)
theorem Rep.neg {p : Nat} {n : Int} (h : Rep p n) : Rep p (-n):=by
 unfold Rep at h ⊢; rw [Zzl]; exact Int.dvd_neg.2 h
theorem Rn.neg {p : Nat} {n r : Int} (h : Rn p n r) : Rn p (-n) (-r):=by
 obtain ⟨h0,h1,h2,h3⟩:=h
 unfold Rn; rw [Zzl]
 exact ⟨h0.neg,Int.dvd_neg.2 h1,by omega,by omega⟩
theorem Rn.exact {p : Nat} {n r : Int} (h : Rn p n r) {i : Nat} (hi : P2 i ∣ n) (hk : bl n - p≤i) : r = n:=by
 obtain ⟨_,h1,h2,h3⟩:=h
 have hp:=ZuO (bl n - p)
 have:=ZpR (Int.dvd_sub h1 (Int.dvd_trans (ZuN hk) hi)) (by omega) (by omega)
 omega
theorem Rn.near {p : Nat} (hp : 1≤p) {n r c : Int} (h : Rn p n r) (hc : Rep p c) : r - n≤(c - n).natAbs∧n - r≤(c - n).natAbs:=by
 have key : ∀ c,P2 (bl n - p) ∣ c→r - n≤(c - n).natAbs∧n - r≤(c - n).natAbs:=fun c hc => by
  obtain ⟨_,h1,h2,h3⟩:=h
  by_cases q : r = c
  ·subst q; omega
  ·have hd:=Int.dvd_sub h1 hc
   have hs : ¬ (r - c < P2 (bl n - p)∧-(r - c) < P2 (bl n - p)):=fun q1 => q (by have:=ZpR hd q1.1 q1.2; omega)
   omega
 by_cases q : bl n - p≤bl c - p
 ·exact key c (Int.dvd_trans (ZuN q) hc)
 ·have hb : bl c≤bl n - 1:=by omega
  have hn0 : n≠0:=by rintro rfl; have : bl 0 = 0:=rfl; omega
  have hc1:=ZEN.1 hb
  have hd : P2 (bl n - p) ∣ P2 (bl n - 1):=ZuN (by omega)
  have k1:=key _ hd
  have k2:=key _ (Int.dvd_neg.2 hd)
  have hpp:=ZuO (bl n - 1)
  rcases ZEL hn0 with h4 | h4 <;> omega
end Go.Cv
namespace Go.Cv
theorem Zma (d : Dy) (L : Int) : (iv d L = ((d.m * 2 ^ (d.e - L).toNat : Nat) : Int)∧d.n = false)∨(iv d L = -((d.m * 2 ^ (d.e - L).toNat : Nat) : Int)∧d.n = true):=by
 unfold iv; cases d.n <;> simp
theorem ZEM (d : Dy) (L : Int) : bl (iv d L) = blen (d.m * 2 ^ (d.e - L).toNat):=by
 unfold bl
 rcases Zma d L with ⟨h,_⟩ | ⟨h,_⟩ <;> rw [h] <;> congr 1 <;> omega
def Fm.X (F : Fm) (w : Nat) : Int:=iv (F.vl w) F.low
theorem ZaB {F : Fm} {w : Nat} (hf : F.fin w) : LoE (F.vl w) F.low:=by
 by_cases h : (F.vl w).m = 0
 ·exact Or.inl h
 ·right; rw [ZbA hf] at h ⊢; exact (Zgz F hf h).2.2.1
theorem Zxj (F : Fm) (n : Bool) : F.sgn n < 2 * F.sg∧F.fin (F.sgn n)∧F.vl (F.sgn n) = ⟨false,0,0⟩:=by
 have hi:=ZdS F
 have h:=ZcL (F:=F) (s:=0) n hi.2.1
 have h2:=Zmp F n
 rw [Nat.zero_add] at h h2
 exact ⟨by unfold Fm.sgn; split <;> omega,h,by rw [ZbA h,h2]⟩
theorem Zok (F : Fm) (md : Int) {c c' : Int} {n n' : Bool} {d d' : Dy} (h1 : c = 1∨c = 2∨c = 3) (h2 : c' = 1∨c' = 2∨c' = 3) :
  addP F md c n d c' n' d' = if c = 1∧c' = 1∧n = n' then (F.sgn n,0) else sumW F md (addD d d'):=by
 unfold addP
 rw [if_neg (by omega),if_neg (by omega),if_neg (by omega),if_neg (by omega)]
end Go.Cv
namespace Go.Cv
theorem Zct {F : Fm} {w : Nat} (hw : w < 2 * F.sg) (hf : F.fin w) : F.cls w = 1↔(F.vl w).m = 0:=by
 rw [ZbA hf]
 constructor
 ·intro h; rw [(Zll hw h).2]
 ·intro h
  have h1:=fun q => ZCv hw q hf
  exact Decidable.byContradiction fun q => h1 q h
theorem ZsR (F : Fm) (md : Int) {c c' : Int} {n n' : Bool} {d d' : Dy} (h1 : c = 1∨c = 2∨c = 3) (h2 : c' = 1∨c' = 2∨c' = 3) :
  mulP F md c n d c' n' d' = if c = 1∨c' = 1 then (F.sgn (n != n'),0) else sumW F md (mulD d d'):=by
 unfold mulP
 rw [if_neg (by omega),if_neg (by omega),if_neg (by omega)]
theorem ZAa {a b : Dy} (ha : Nz a) (hb : Nz b) (h1 : a.m≠0) (h2 : b.m≠0) : mulD a b = ⟨a.n != b.n,a.m * b.m,a.e + b.e⟩:=by
 unfold mulD; exact ZoP (Zrz (ha.2 h1) (hb.2 h2))
end Go.Cv
namespace Go.Cv
theorem Zbb {a b : Dy} {K L : Int} (ha : LoE a K) (hb : LoE b L) : iv (mulD a b) (K + L) = iv a K * iv b L∧LoE (mulD a b) (K + L):=by
 by_cases h1 : a.m = 0
 ·have : mulD a b = ⟨false,0,0⟩:=Zid (Or.inl h1)
  rw [this,Zah rfl,Zah h1,Int.zero_mul]; exact ⟨rfl,Or.inl rfl⟩
 ·by_cases h2 : b.m = 0
  ·have : mulD a b = ⟨false,0,0⟩:=Zid (Or.inr h2)
   rw [this,Zah rfl,Zah h2,Int.mul_zero]; exact ⟨rfl,Or.inl rfl⟩
  ·have la:=ha.resolve_left h1
   have lb:=hb.resolve_left h2
   refine ⟨?_,ZfA (by omega)⟩
   unfold mulD
   rw [ZlT (by omega),show (a.e + b.e - (K + L)).toNat = (a.e - K).toNat + (b.e - L).toNat by omega,Nat.pow_add]
   unfold iv
   have e : a.m * b.m * (2 ^ (a.e - K).toNat * 2 ^ (b.e - L).toNat) = (a.m * 2 ^ (a.e - K).toNat) * (b.m * 2 ^ (b.e - L).toNat):=by
    simp only [Nat.mul_assoc,Nat.mul_left_comm,Nat.mul_comm]
   rw [e,Int.natCast_mul]
   generalize ((a.m * 2 ^ (a.e - K).toNat : Nat) : Int) = x
   generalize ((b.m * 2 ^ (b.e - L).toNat : Nat) : Int) = y
   cases a.n <;> cases b.n <;> simp [Int.neg_mul,Int.mul_neg]
theorem Zyx (F : Fm) {md : Int} {a b : Dy} (h0 : a.m≠0) (h1 : b.m≠0) (hf : (quoW F md a b).2 = 0∨(quoW F md a b).2 = 16) :
  ∃ (K N kk : Nat) (u : Int),F.fin (quoW F md a b).1∧(quoW F md a b).1 < 2 * F.sg∧F.val (quoW F md a b).1 = mkD (a.n != b.n) K u∧u + b.e = a.e - N + kk∧((quoW F md a b).2 = 16→u≤(a.e + blen a.m) - (b.e + blen b.m) + 1 - F.fr) ∧
   (a.m * 2 ^ N≤K * b.m * 2 ^ kk + b.m * 2 ^ kk)∧K * b.m * 2 ^ kk≤a.m * 2 ^ N + b.m * 2 ^ kk∧((quoW F md a b).2 = 0→a.m * 2 ^ N = K * b.m * 2 ^ kk):=by
 have hF:=Zak F
 have hi:=ZdS F
 have hqb:=ZkL (k:=64) h0 h1
 unfold quoW at hf ⊢
 obtain ⟨N,hN⟩ : ∃ N,N = quoN 64 a.m b.m:=⟨_,rfl⟩
 rw [← hN] at hf hqb ⊢
 have hdm:=Nat.div_add_mod (a.m * 2 ^ N) b.m
 have hml:=Nat.mod_lt (a.m * 2 ^ N) (Nat.pos_of_ne_zero h1)
 have hbA : blen (a.m * 2 ^ N) = blen a.m + N:=Zam h0 N
 obtain ⟨A,hA⟩ : ∃ A,A = a.m * 2 ^ N:=⟨_,rfl⟩
 rw [← hA] at hdm hml hbA hqb hf ⊢
 obtain ⟨Q,hQ⟩ : ∃ Q,Q = A / b.m:=⟨_,rfl⟩
 rw [← hQ] at hdm hqb hf ⊢
 have hQb : blen Q + blen b.m≤blen A + 1:=by
  have q0 : Q≠0:=by rintro rfl; rw [Zai] at hqb; omega
  have e1:=ZaW q0
  have e2:=ZaW h1
  have e3:=Nat.mul_le_mul e2 e1
  rw [← Nat.pow_add] at e3
  have e4:=ZaO A
  have e5 : blen b.m - 1 + (blen Q - 1) < blen A:=by
   refine (Nat.pow_lt_pow_iff_right (a:=2) (by decide)).1 (Nat.lt_of_le_of_lt e3 (Nat.lt_of_le_of_lt ?_ e4))
   omega
  have:=Zbg h1
  omega
 obtain ⟨E,hE⟩ : ∃ E : Int,E = a.e - b.e - (N : Nat):=⟨_,rfl⟩
 rw [← hE] at hf ⊢
 unfold sW at hf ⊢
 obtain ⟨u,hu⟩ : ∃ u,u = F.eOf (E + blen Q):=⟨_,rfl⟩
 have hue : u = max (E + blen Q - F.fr - 1) F.low:=hu
 rw [← hu] at hf ⊢
 obtain ⟨kk,hkk⟩ : ∃ kk,kk = (u - E).toNat:=⟨_,rfl⟩
 rw [← hkk] at hf ⊢
 have k0 : 0 < kk:=by omega
 -- the count of units
 obtain ⟨lost,hlost⟩ : ∃ l,l = !decide (A % b.m = 0):=⟨_,rfl⟩
 rw [← hlost] at hf ⊢
 obtain ⟨up,hup⟩ : ∃ up : Bool,(rdN md (a.n != b.n) Q lost kk).1 = Q / 2 ^ kk + up.toNat∧((rdN md (a.n != b.n) Q lost kk).2 = true→up = false∧Q % 2 ^ kk = 0∧A % b.m = 0):=by
  refine ⟨_,rfl,fun h => ?_⟩
  simp only [rdN,Bool.and_eq_true,Bool.not_eq_true'] at h
  obtain ⟨q1,_,_⟩:=Zhl Q k0
  rw [h.1,h.2]
  refine ⟨ZAP _ _ _,?_,?_⟩
  ·have h2:=h.2
   simp only [moreN,Bool.or_eq_false_iff,decide_eq_false_iff_not,ne_eq,Decidable.not_not] at h2
   rw [q1,h.1,h2.2]; rfl
  ·have h2:=h.2
   simp only [moreN,Bool.or_eq_false_iff] at h2
   have h3:=h2.1
   rw [hlost] at h3
   simpa using h3
 have hbd : (rdN md (a.n != b.n) Q lost kk).1≤2 ^ (F.fr + 1):=by
  rw [hup.1]
  have hb1 : blen (Q / 2 ^ kk)≤F.fr + 1:=by rw [Zaj]; omega
  have:=Zaf.1 hb1
  cases up <;> simp <;> omega
 have hlo2 : u = F.low∨2 ^ F.fr≤(rdN md (a.n != b.n) Q lost kk).1:=by
  by_cases q : u = F.low
  ·exact Or.inl q
  ·right
   have : 2 ^ F.fr≤Q / 2 ^ kk:=Zau.1 (by rw [Zaj]; omega)
   rw [hup.1]; omega
 have hfine : blen (rdN md (a.n != b.n) Q lost (blen Q - F.fr - 1)).1≤F.fr + 2:=by
  have hb1 : blen (Q / 2 ^ (blen Q - F.fr - 1))≤F.fr + 1:=by rw [Zaj]; omega
  have h2:=Zaf.1 hb1
  have hb : ∀ b : Bool,b.toNat≤1:=fun b => by cases b <;> decide
  rw [Zaf,show F.fr + 2 = (F.fr + 1) + 1 by omega,Nat.pow_succ]
  simp only [rdN]
  have:=hb (upB md (a.n != b.n) (decide (Q / 2 ^ (blen Q - F.fr - 1) % 2 = 1)) (halfN Q (blen Q - F.fr - 1)) (moreN Q lost (blen Q - F.fr - 1)))
  have h3:=Nat.two_pow_pos (F.fr + 1)
  omega
 generalize hK : (rdN md (a.n != b.n) Q lost kk).1 = K at *
 generalize (rdN md (a.n != b.n) Q lost (blen Q - F.fr - 1)).1 = fine at *
 generalize (rdN md (a.n != b.n) Q lost kk).2 = ex at *
 unfold wordOf at hf ⊢
 have hbig:=ZiH F (n:=K) (u:=u) hbd (by omega) hlo2
 by_cases ov : F.wide < blen K + u
 ·rw [if_pos ov] at hf; simp only at hf; omega
 ·rw [if_neg ov] at hf ⊢
  have hs : F.enc K u < F.i0:=by
   rcases Nat.lt_or_ge (F.enc K u) F.i0 with q | q
   ·exact q
   ·exact absurd (hbig.2 q) ov
  obtain ⟨v1,v2,v3⟩:=ZsF (F:=F) (a.n != b.n) hs
  rw [ZkD F hbd (by omega) hlo2] at v1
  have hval : F.val (F.enc K u + F.sgn (a.n != b.n)) = mkD (a.n != b.n) K u:=ZwA v3 (ZnE _ _ _) v2 (ZfA (by omega)) (by rw [v1,ZlT (by omega)])
  -- S
  have hS1 : Q * b.m = Q / 2 ^ kk * b.m * 2 ^ kk + Q % 2 ^ kk * b.m:=by
   have e:=Nat.div_add_mod Q (2 ^ kk)
   conv => lhs; rw [← e]
   rw [Nat.add_mul]
   congr 1
   rw [Nat.mul_assoc,Nat.mul_comm]
  have hS2 : Q % 2 ^ kk * b.m + A % b.m < b.m * 2 ^ kk:=by
   have e:=Nat.mod_lt Q (Nat.two_pow_pos kk)
   have:=Nat.mul_le_mul_left b.m (show Q % 2 ^ kk + 1≤2 ^ kk from e)
   rw [Nat.mul_add,Nat.mul_one,Nat.mul_comm b.m (Q % 2 ^ kk)] at this
   omega
  have hdm' : Q * b.m + A % b.m = A:=by rw [Nat.mul_comm]; exact hdm
  have hKb : K * b.m * 2 ^ kk = Q / 2 ^ kk * b.m * 2 ^ kk + up.toNat * (b.m * 2 ^ kk):=by rw [hup.1,Nat.add_mul,Nat.add_mul,Nat.mul_assoc up.toNat]
  refine ⟨K,N,kk,u,ZcL _ hs,by unfold Fm.sgn; split <;> omega,hval,by omega,?_,?_,?_,?_⟩
  ·intro hf
   simp only at hf
   have : ¬ ((blen fine : Int) + (E + blen Q - F.fr - 1) < F.low + F.fr + 1):=by
    intro q; rw [if_pos q] at hf; split at hf <;> omega
   omega
  ·rw [← hA,hKb]
   generalize Q / 2 ^ kk * b.m * 2 ^ kk = X at *
   generalize b.m * 2 ^ kk = Y at *
   cases up <;> simp <;> omega
  ·rw [← hA,hKb]
   generalize Q / 2 ^ kk * b.m * 2 ^ kk = X at *
   generalize b.m * 2 ^ kk = Y at *
   cases up <;> simp <;> omega
  ·intro h
   have hx : ex = true:=by
    cases ex
    ·simp only [Bool.false_eq_true,if_false] at h; split at h <;> simp at h
    ·rfl
   obtain ⟨x1,x2,x3⟩:=hup.2 hx
   rw [← hA,hKb,x1,← hdm',x3,hS1,x2]; simp
end Go.Cv
namespace Go.Cv
theorem ZBX (F : Fm) (md : Int) (neg : Bool) {Q : Nat} (lost : Bool) (E : Int) (hq : F.fr + 2≤blen Q) :
  ∃ (K kk : Nat) (u : Int),0 < kk∧u = E + kk∧F.low≤u∧K = Q / 2 ^ kk + (upB md neg (decide (Q / 2 ^ kk % 2 = 1)) (halfN Q kk) (moreN Q lost kk)).toNat∧magN F (F.enc K u) = K * 2 ^ (u - F.low).toNat ∧
   ((F.i0≤F.enc K u∧(sW F md neg Q lost E).1 = ovr F md neg)∨(F.enc K u < F.i0∧(sW F md neg Q lost E).1 = F.enc K u + F.sgn neg)):=by
 have hF:=Zak F
 unfold sW
 obtain ⟨u,hu⟩ : ∃ u,u = F.eOf (E + blen Q):=⟨_,rfl⟩
 have hue : u = max (E + blen Q - F.fr - 1) F.low:=hu
 rw [← hu]
 obtain ⟨kk,hkk⟩ : ∃ kk,kk = (u - E).toNat:=⟨_,rfl⟩
 rw [← hkk]
 have k0 : 0 < kk:=by omega
 have hK : (rdN md neg Q lost kk).1 = Q / 2 ^ kk + (upB md neg (decide (Q / 2 ^ kk % 2 = 1)) (halfN Q kk) (moreN Q lost kk)).toNat:=rfl
 have hbt : ∀ b : Bool,b.toNat≤1:=fun b => by cases b <;> decide
 have hbd : (rdN md neg Q lost kk).1≤2 ^ (F.fr + 1):=by
  rw [hK]
  have hb1 : blen (Q / 2 ^ kk)≤F.fr + 1:=by rw [Zaj]; omega
  have:=Zaf.1 hb1
  have:=hbt (upB md neg (decide (Q / 2 ^ kk % 2 = 1)) (halfN Q kk) (moreN Q lost kk))
  omega
 have hlo2 : u = F.low∨2 ^ F.fr≤(rdN md neg Q lost kk).1:=by
  by_cases q : u = F.low
  ·exact Or.inl q
  ·right
   have : 2 ^ F.fr≤Q / 2 ^ kk:=Zau.1 (by rw [Zaj]; omega)
   rw [hK]; omega
 have hbig:=ZiH F (n:=(rdN md neg Q lost kk).1) (u:=u) hbd (by omega) hlo2
 refine ⟨(rdN md neg Q lost kk).1,kk,u,k0,by omega,by omega,hK,ZkD F hbd (by omega) hlo2,?_⟩
 unfold wordOf
 by_cases ov : F.wide < blen (rdN md neg Q lost kk).1 + u
 ·left; rw [if_pos ov]; exact ⟨hbig.1 ov,rfl⟩
 ·right; rw [if_neg ov]
  refine ⟨?_,rfl⟩
  rcases Nat.lt_or_ge (F.enc (rdN md neg Q lost kk).1 u) F.i0 with q | q
  ·exact q
  ·exact absurd (hbig.2 q) ov
theorem units {K kk : Nat} {u E low L : Int} (h1 : u = E + kk) (h2 : L≤E) (h3 : low≤u) (h4 : L≤low) : K * 2 ^ (u - low).toNat * 2 ^ (low - L).toNat = K * 2 ^ kk * 2 ^ (E - L).toNat:=by
 rw [Nat.mul_assoc,← Nat.pow_add,Nat.mul_assoc,← Nat.pow_add]; congr 2; omega
theorem ZCc (F : Fm) {Q : Nat} (lost : Bool) (E : Int) (hq : F.fr + 2≤blen Q) {L : Int} (l1 : L≤F.low) (l2 : L≤E) :
  (sW F 4 false Q lost E).1 < 2 * F.sg∧(F.cls (sW F 4 false Q lost E).1 = 4∨(F.fin (sW F 4 false Q lost E).1∧(((Q + lost.toNat) * 2 ^ (E - L).toNat : Nat) : Int)≤iv (F.val (sW F 4 false Q lost E).1) L∧LoE (F.val (sW F 4 false Q lost E).1) L)):=by
 have hi:=ZdS F
 obtain ⟨K,kk,u,k0,hu,hlo,hK,hm,h⟩:=ZBX F 4 false lost E hq
 have hup : upB 4 false (decide (Q / 2 ^ kk % 2 = 1)) (halfN Q kk) (moreN Q lost kk) = (halfN Q kk || moreN Q lost kk):=by simp [upB]
 rw [hup] at hK
 obtain ⟨q1,q2,q3⟩:=Zhl Q k0
 have hd:=Nat.div_add_mod Q (2 ^ kk)
 have hml:=Nat.mod_lt Q (Nat.two_pow_pos kk)
 have hKQ : Q + lost.toNat≤K * 2 ^ kk:=by
  rw [hK,Nat.add_mul,Nat.mul_comm]
  have hlb : lost.toNat≤1:=by cases lost <;> decide
  by_cases hb : (halfN Q kk || moreN Q lost kk) = true
  ·rw [hb]; simp only [Bool.toNat_true,Nat.one_mul]; omega
  ·simp only [Bool.not_eq_true] at hb
   rw [hb]
   simp only [Bool.or_eq_false_iff,moreN,decide_eq_false_iff_not,ne_eq,Decidable.not_not] at hb
   rw [hb.1,hb.2.2] at q1
   rw [hb.2.1]
   simp only [Bool.toNat_false,Nat.zero_mul,Nat.add_zero]
   simp only [Bool.false_eq_true,if_false] at q1
   omega
 rcases h with ⟨h1,h2⟩ | ⟨h1,h2⟩
 ·have e : ovr F 4 false = F.inf false:=by unfold ovr; rw [if_neg (by simp)]
  rw [h2,e]
  refine ⟨?_,Or.inl (Zot F false)⟩
  cases F <;> decide
 ·rw [h2]
  obtain ⟨v1,v2⟩:=Zmb (F:=F) false h1 l1
  refine ⟨by unfold Fm.sgn; simp only [Bool.false_eq_true,if_false]; omega,Or.inr ⟨ZcL false h1,?_,v2⟩⟩
  rw [v1,hm,units hu l2 hlo l1]
  simp only [Bool.false_eq_true,if_false,Int.one_mul]
  exact Int.ofNat_le.2 (Nat.mul_le_mul_right _ hKQ)
theorem ZEa (F : Fm) {d : Dy} (hn : d.n = false) : (rtW F 4 d).1 < 2 * F.sg∧(F.cls (rtW F 4 d).1 = 4∨(F.fin (rtW F 4 d).1∧∀ L,L≤F.low→2 * L≤d.e - 200→0≤iv (F.vl (rtW F 4 d).1) L∧LoE (F.vl (rtW F 4 d).1) L∧iv d (2 * L)≤iv (F.vl (rtW F 4 d).1) L * iv (F.vl (rtW F 4 d).1) L)):=by
 unfold rtW
 by_cases h0 : d.m = 0
 ·rw [if_pos h0]
  obtain ⟨s1,s2,s3⟩:=Zxj F false
  refine ⟨s1,Or.inr ⟨s2,fun L l1 l2 => ?_⟩⟩
  have e : F.vl ((0,0) : Nat × Nat).1 = ⟨false,0,0⟩:=s3
  rw [e,Zah rfl,Zah h0]
  exact ⟨Int.le_refl _,Or.inl rfl,by decide⟩
 ·rw [if_neg h0]
  unfold rootW
  obtain ⟨r1,r2⟩:=Zic (d.m * 2 ^ rootP d.e)
  have hP : rootP d.e = 130 + (d.e % 2).toNat:=rfl
  have hbp:=Zbg h0
  have hbm:=Zam h0 (rootP d.e)
  have hbt : 64 < blen (isq (d.m * 2 ^ rootP d.e)):=ZfV (k:=64) (M:=d.m * 2 ^ rootP d.e) (by
   have:=ZaW (n:=d.m * 2 ^ rootP d.e) (by intro hc; rw [hc,Zai] at hbm; omega)
   rw [← Nat.pow_add]
   exact Nat.le_trans (Nat.pow_le_pow_right (by decide) (by omega)) this) r2
  have hF:=ZvQ F
  have hE : (d.e - (rootP d.e : Nat)) / 2 * 2 = d.e - (rootP d.e : Nat):=by omega
  obtain ⟨lost,hl⟩ : ∃ l,l = (!decide (isq (d.m * 2 ^ rootP d.e) * isq (d.m * 2 ^ rootP d.e) = d.m * 2 ^ rootP d.e)):=⟨_,rfl⟩
  rw [← hl]
  have hr : d.m * 2 ^ rootP d.e≤(isq (d.m * 2 ^ rootP d.e) + lost.toNat) * (isq (d.m * 2 ^ rootP d.e) + lost.toNat):=by
   by_cases q : isq (d.m * 2 ^ rootP d.e) * isq (d.m * 2 ^ rootP d.e) = d.m * 2 ^ rootP d.e
   ·rw [hl,decide_eq_true q]; simp only [Bool.not_true,Bool.toNat_false,Nat.add_zero]; omega
   ·rw [hl,decide_eq_false q]; simp only [Bool.not_false,Bool.toNat_true]; omega
  clear hl
  have g0:=ZCc F (Q:=isq (d.m * 2 ^ rootP d.e)) lost ((d.e - (rootP d.e : Nat)) / 2) (by omega) (L:=min F.low ((d.e - (rootP d.e : Nat)) / 2)) (by omega) (by omega)
  refine ⟨g0.1,?_⟩
  rcases g0.2 with g1 | ⟨g1,_,_⟩
  ·exact Or.inl g1
  refine Or.inr ⟨g1,fun L l1 l2 => ?_⟩
  obtain ⟨_,g2⟩:=ZCc F (Q:=isq (d.m * 2 ^ rootP d.e)) lost ((d.e - (rootP d.e : Nat)) / 2) (by omega) (L:=L) (by omega) (by omega)
  rcases g2 with g2 | ⟨_,g3,g4⟩
  ·have:=Zat.1 g1; omega
  rw [ZbA g1]
  have hd : iv d (2 * L) = ((d.m * 2 ^ rootP d.e * (2 ^ ((d.e - (rootP d.e : Nat)) / 2 - L).toNat * 2 ^ ((d.e - (rootP d.e : Nat)) / 2 - L).toNat) : Nat) : Int):=by
   unfold iv; rw [hn]
   simp only [Bool.false_eq_true,if_false,Int.one_mul]
   rw [Nat.mul_assoc,← Nat.pow_add,← Nat.pow_add]
   congr 3; omega
  rw [hd]
  generalize isq (d.m * 2 ^ rootP d.e) + lost.toNat = r at *
  generalize d.m * 2 ^ rootP d.e = X at *
  generalize 2 ^ ((d.e - (rootP d.e : Nat)) / 2 - L).toNat = U at *
  refine ⟨Int.le_trans (Int.natCast_nonneg _) g3,g4,Int.le_trans ?_ (Int.mul_le_mul g3 g3 (Int.natCast_nonneg _) (Int.le_trans (Int.natCast_nonneg _) g3))⟩
  rw [← Int.natCast_mul]
  refine Int.ofNat_le.2 ?_
  rw [show r * U * (r * U) = r * r * (U * U) by simp only [Nat.mul_assoc,Nat.mul_left_comm,Nat.mul_comm]]
  exact Nat.mul_le_mul_right _ hr
theorem ZlU (x : Int) : 0≤x * x:=by
 rcases Int.le_total 0 x with h | h
 ·exact Int.mul_nonneg h h
 ·have:=Int.mul_nonneg (Int.neg_nonneg.2 h) (Int.neg_nonneg.2 h)
  rwa [Int.neg_mul_neg] at this
theorem ZFm {x y : Int} (hy : 0≤y) (h : x * x≤y * y) : x≤y:=by
 rcases Int.lt_or_le y x with q | q
 ·have:=Int.mul_lt_mul_of_pos_left q (show 0 < x by omega)
  have h2:=Int.mul_le_mul_of_nonneg_right (Int.le_of_lt q) hy
  omega
 ·exact q
end Go.Cv
namespace Go.Cv
theorem ZCt {F : Fm} {md : Int} {neg o h m : Bool} (hm : 1≤md∧md≤5) (hu : upB md neg o h m = true) : ovs F md neg = F.i0:=by
 unfold ovs
 rw [if_neg]
 rintro (r | ⟨r,n⟩ | ⟨r,n⟩) <;> subst r <;> simp [upB] at hu
 ·rw [n] at hu; simp at hu
 ·rw [n] at hu; simp at hu
theorem ZCb (F : Fm) (neg : Bool) {Q : Nat} (more : Bool) (E : Int) (hQ : F.fr + 2≤blen Q) : ∃ (s0 : Nat) (o h m : Bool),∀ md,1≤md∧md≤5 →
  (sW F md neg Q more E).1 = (if s0 < F.i0 then s0 + (upB md neg o h m).toNat else ovs F md neg) + F.sgn neg:=by
 obtain ⟨u,hu⟩ : ∃ u,u = F.eOf (E + blen Q):=⟨_,rfl⟩
 have hue : u = max (E + blen Q - F.fr - 1) F.low:=hu
 obtain ⟨k,hk⟩ : ∃ k,k = (u - E).toNat:=⟨_,rfl⟩
 have k0 : 0 < k:=by omega
 have hb1 : blen (Q / 2 ^ k)≤F.fr + 1:=by rw [Zaj]; omega
 have hb2:=Zaf.1 hb1
 refine ⟨F.enc (Q / 2 ^ k) u,decide (Q / 2 ^ k % 2 = 1),halfN Q k,moreN Q more k,fun md hm => ?_⟩
 unfold sW
 rw [← hu,← hk]
 have hn : (rdN md neg Q more k).1 = Q / 2 ^ k + (upB md neg (decide (Q / 2 ^ k % 2 = 1)) (halfN Q k) (moreN Q more k)).toNat:=rfl
 generalize (rdN md neg Q more (blen Q - F.fr - 1)).1 = fine
 generalize (rdN md neg Q more k).2 = ex
 rw [hn]
 obtain ⟨n0,hn0⟩ : ∃ n0,n0 = Q / 2 ^ k:=⟨_,rfl⟩
 rw [← hn0] at hb1 hb2 ⊢
 have hlo : u = F.low∨2 ^ F.fr≤n0:=by
  by_cases q : u = F.low
  ·exact Or.inl q
  ·right; rw [hn0]; exact Zau.1 (by rw [Zaj]; omega)
 generalize hU : upB md neg (decide (n0 % 2 = 1)) (halfN Q k) (moreN Q more k) = U
 have hUn : U.toNat≤1:=by cases U <;> decide
 have hb:=ZiH F (n:=n0 + U.toNat) (u:=u) (by omega) (by omega) (by omega)
 have he : F.enc (n0 + U.toNat) u = F.enc n0 u + U.toNat:=by cases U <;> rfl
 rw [he] at hb
 unfold wordOf
 by_cases hs : F.enc n0 u < F.i0
 ·rw [if_pos hs]
  by_cases hw : F.wide < blen (n0 + U.toNat) + u
  ·rw [if_pos hw,Zqp]
   have h1:=hb.1 hw
   have hUt : U = true:=by cases U with | true => rfl | false => exfalso; simp at h1; omega
   subst hUt
   rw [ZCt hm hU]
   simp at h1 ⊢
   omega
  ·rw [if_neg hw,he]
 ·rw [if_neg hs,if_pos (hb.2 (by omega)),Zqp]
def plz (F : Fm) (neg : Bool) (s : Nat) : Int:=if neg then -(s : Int) else s
theorem ZlD (F : Fm) {md : Int} (hm : 1≤md∧md≤5) (neg o h m : Bool) (s0 : Nat) :
  let z:=fun md => (if s0 < F.i0 then s0 + (upB md neg o h m).toNat else ovs F md neg)
  plz F neg (z 5)≤plz F neg (z md)∧plz F neg (z md)≤plz F neg (z 4)∧plz F neg (z 4)≤plz F neg (z 5) + 1∧z md≤F.i0:=by
 have hi:=ZdS F
 have hmd : md = 1∨md = 2∨md = 3∨md = 4∨md = 5:=by omega
 simp only
 by_cases hs : s0 < F.i0
 ·simp only [if_pos hs]
  rcases hmd with r | r | r | r | r <;> subst r <;> cases neg <;> cases o <;> cases h <;> cases m <;> simp [upB,plz] <;> omega
 ·simp only [if_neg hs]
  rcases hmd with r | r | r | r | r <;> subst r <;> cases neg <;> simp [ovs,plz] <;> omega
theorem Zyz (F : Fm) {a b : Dy} (h0 : a.m≠0) (h1 : b.m≠0) : ∃ (s0 : Nat) (o h m : Bool),∀ md,1≤md∧md≤5 →
  (quoW F md a b).1 = (if s0 < F.i0 then s0 + (upB md (a.n != b.n) o h m).toNat else ovs F md (a.n != b.n)) + F.sgn (a.n != b.n):=by
 have hF:=Zak F
 have hqb:=ZkL (k:=64) h0 h1
 exact ZCb F (a.n != b.n) _ _ (by omega)
theorem ZrA (F : Fm) (neg : Bool) {s : Nat} (h : s≤F.i0) : (if F.ng (s + F.sgn neg) then -(((s + F.sgn neg) % F.sg : Nat) : Int) else (((s + F.sgn neg) % F.sg : Nat) : Int)) = plz F neg s∧s + F.sgn neg < 2 * F.sg∧F.cls (s + F.sgn neg)≠5:=by
 have hi:=ZdS F
 obtain ⟨q1,q2⟩:=ZeO (F:=F) (s:=s) neg (by omega)
 refine ⟨?_,?_,(ZlY neg h).2.2⟩
 ·rw [q1,q2]; unfold plz; cases neg <;> rfl
 ·unfold Fm.sgn; split <;> omega
end Go.Cv
namespace Go.Cv
theorem ZwS {neg : Bool} (Q : Nat) {k : Nat} (hk : 0 < k) : 2 * ((rdN 1 neg Q false k).1 * 2 ^ k)≤2 * Q + 2 ^ k∧2 * Q≤2 * ((rdN 1 neg Q false k).1 * 2 ^ k) + 2 ^ k:=by
 obtain ⟨q1,q2,q3⟩:=Zhl Q hk
 have hd:=Nat.div_add_mod Q (2 ^ k)
 have hK : (rdN 1 neg Q false k).1 = Q / 2 ^ k + (halfN Q k && (moreN Q false k || decide (Q / 2 ^ k % 2 = 1))).toNat:=rfl
 have hm : moreN Q false k = decide (Q % 2 ^ (k - 1)≠0):=by unfold moreN; rw [Bool.false_or]
 rw [hK,Nat.add_mul,Nat.mul_comm (Q / 2 ^ k)]
 generalize 2 ^ k * (Q / 2 ^ k) = A at *
 generalize 2 ^ k = B at *
 generalize 2 ^ (k - 1) = C at *
 cases h : halfN Q k
 ·rw [h] at q1
  simp only [Bool.false_and,Bool.toNat_false,Nat.zero_mul,Nat.add_zero]
  simp only [Bool.false_eq_true,if_false] at q1
  omega
 ·rw [h] at q1
  simp only [if_true] at q1
  rw [hm]
  by_cases g : (decide (Q % C≠0) || decide (Q / B % 2 = 1)) = true
  ·rw [g]; simp only [Bool.and_self,Bool.toNat_true,Nat.one_mul]; omega
  ·rw [Bool.not_eq_true] at g
   rw [g]
   simp only [Bool.or_eq_false_iff,decide_eq_false_iff_not,ne_eq,Decidable.not_not] at g
   simp only [Bool.and_false,Bool.toNat_false,Nat.zero_mul,Nat.add_zero]
   omega
theorem ZBZ (F : Fm) (neg : Bool) {Q : Nat} (E : Int) (hq : F.fr + 2≤blen Q) :
  (F.cls (sW F 1 neg Q false E).1 = 4∧(sW F 1 neg Q false E).1 < 2 * F.sg)∨(F.fin (sW F 1 neg Q false E).1∧(sW F 1 neg Q false E).1 < 2 * F.sg∧∀ L,L≤F.low→L≤E→LoE (F.val (sW F 1 neg Q false E).1) L∧∃ m : Nat,iv (F.val (sW F 1 neg Q false E).1) L = (if neg then -1 else 1) * (m : Int) ∧
   2 * 2 ^ (F.fr + 1) * m≤2 * 2 ^ (F.fr + 1) * (Q * 2 ^ (E - L).toNat) + 2 * m + 2 ^ (F.fr + 1) * 2 ^ (F.low - L).toNat ∧
   2 * 2 ^ (F.fr + 1) * (Q * 2 ^ (E - L).toNat)≤2 * 2 ^ (F.fr + 1) * m + 2 * m + 2 ^ (F.fr + 1) * 2 ^ (F.low - L).toNat):=by
 have hi:=ZdS F
 unfold sW
 obtain ⟨u,hu⟩ : ∃ u,u = F.eOf (E + blen Q):=⟨_,rfl⟩
 have hue : u = max (E + blen Q - F.fr - 1) F.low:=hu
 rw [← hu]
 obtain ⟨kk,hkk⟩ : ∃ kk,kk = (u - E).toNat:=⟨_,rfl⟩
 rw [← hkk]
 have k0 : 0 < kk:=by omega
 obtain ⟨r1,r2⟩:=ZwS (neg:=neg) Q k0
 have hK : (rdN 1 neg Q false kk).1 = Q / 2 ^ kk + (upB 1 neg (decide (Q / 2 ^ kk % 2 = 1)) (halfN Q kk) (moreN Q false kk)).toNat:=rfl
 have hbt : ∀ b : Bool,b.toNat≤1:=fun b => by cases b <;> decide
 have hbd : (rdN 1 neg Q false kk).1≤2 ^ (F.fr + 1):=by
  rw [hK]
  have hb1 : blen (Q / 2 ^ kk)≤F.fr + 1:=by rw [Zaj]; omega
  have:=Zaf.1 hb1
  have:=hbt (upB 1 neg (decide (Q / 2 ^ kk % 2 = 1)) (halfN Q kk) (moreN Q false kk))
  omega
 have hlo2 : u = F.low∨2 ^ F.fr≤(rdN 1 neg Q false kk).1:=by
  by_cases q : u = F.low
  ·exact Or.inl q
  ·right
   have : 2 ^ F.fr≤Q / 2 ^ kk:=Zau.1 (by rw [Zaj]; omega)
   rw [hK]; omega
 generalize (rdN 1 neg Q false kk).1 = K at *
 generalize (rdN 1 neg Q false kk).2 = ex
 generalize (rdN 1 neg Q false (blen Q - F.fr - 1)).1 = fine
 have hbig:=ZiH F (n:=K) (u:=u) hbd (by omega) hlo2
 have hmag:=ZkD F hbd (by omega) hlo2
 unfold wordOf
 by_cases ov : F.wide < blen K + u
 ·left
  rw [if_pos ov,Zqp,show ovs F 1 neg = F.i0 by unfold ovs; rw [if_neg (by simp)]]
  exact ⟨(ZlY neg (Nat.le_refl _)).2.1.2 rfl,(ZrA F neg (Nat.le_refl _)).2.1⟩
 ·right
  rw [if_neg ov]
  have hs : F.enc K u < F.i0:=by
   rcases Nat.lt_or_ge (F.enc K u) F.i0 with q | q
   ·exact q
   ·exact absurd (hbig.2 q) ov
  refine ⟨ZcL neg hs,(ZrA F neg (Nat.le_of_lt hs)).2.1,fun L l1 l2 => ?_⟩
  obtain ⟨v1,v2⟩:=Zmb (F:=F) neg hs l1
  refine ⟨v2,_,v1,?_⟩
  rw [hmag,units (kk:=kk) (E:=E) (by omega) l2 (by omega) l1]
  have hV : 2 ^ (u - L).toNat = 2 ^ kk * 2 ^ (E - L).toNat:=by rw [← Nat.pow_add]; congr 1; omega
  -- half a unit
  have hun : 2 ^ (F.fr + 1) * (2 ^ kk * 2 ^ (E - L).toNat)≤2 * (K * 2 ^ kk * 2 ^ (E - L).toNat) + 2 ^ (F.fr + 1) * 2 ^ (F.low - L).toNat:=by
   rcases hlo2 with q | q
   ·rw [← hV,q]; omega
   ·have:=Nat.mul_le_mul_right (2 ^ kk * 2 ^ (E - L).toNat) q
    rw [Nat.pow_succ,Nat.mul_assoc K]
    rw [Nat.mul_comm (2 ^ F.fr) 2,Nat.mul_assoc]
    omega
  have e1:=Nat.mul_le_mul_right (2 ^ (E - L).toNat) r1
  have e2:=Nat.mul_le_mul_right (2 ^ (E - L).toNat) r2
  generalize 2 ^ (F.fr + 1) * 2 ^ (F.low - L).toNat = Z at *
  rw [Nat.add_mul,Nat.mul_assoc 2,Nat.mul_assoc 2] at e1 e2
  generalize 2 ^ (F.fr + 1) = p at *
  generalize 2 ^ kk * 2 ^ (E - L).toNat = B at *
  generalize K * 2 ^ kk * 2 ^ (E - L).toNat = M at *
  generalize Q * 2 ^ (E - L).toNat = X at *
  have f1:=Nat.mul_le_mul_left p e1
  have f2:=Nat.mul_le_mul_left p e2
  rw [Nat.mul_add] at f1 f2
  have g : ∀ x,p * (2 * x) = 2 * p * x:=fun x => by rw [← Nat.mul_assoc,Nat.mul_comm p]
  rw [g,g] at f1 f2
  omega
def Nr (F : Fm) (d : Dy) (w : Nat) (L : Int) : Prop:=LoE (F.vl w) L∧2 * 2 ^ (F.fr + 1) * (iv d L - iv (F.vl w) L).natAbs≤2 * (iv (F.vl w) L).natAbs + 2 ^ (F.fr + 1) * 2 ^ (F.low - L).toNat
theorem Ztq (F : Fm) {d : Dy} (nz : Nz d) (h0 : d.m≠0) : (F.cls (rndW F 1 d).1 = 4∧(rndW F 1 d).1 < 2 * F.sg)∨(F.fin (rndW F 1 d).1∧(rndW F 1 d).1 < 2 * F.sg∧∀ L,L≤F.low→L≤d.e - 60→Nr F d (rndW F 1 d).1 L):=by
 have hF:=Zak F
 have ho:=nz.2 h0
 have hb:=Zam h0 (F.fr + 2)
 have hb1:=Zbg h0
 have e : d = mkD d.n (d.m * 2 ^ (F.fr + 2)) (d.e - (F.fr + 2 : Nat)):=by rw [Zjv ho]
 have hs:=Zpi F 1 d.n (M:=d.m * 2 ^ (F.fr + 2)) (d.e - (F.fr + 2 : Nat)) (by omega)
 rw [← e] at hs
 rw [hs]
 rcases ZBZ F d.n (Q:=d.m * 2 ^ (F.fr + 2)) (d.e - (F.fr + 2 : Nat)) (by omega) with h | ⟨f1,f2,h⟩
 ·exact Or.inl h
 ·refine Or.inr ⟨f1,f2,fun L l1 l2 => ?_⟩
  obtain ⟨g1,m,g2,g3,g4⟩:=h L l1 (by omega)
  have hd : iv d L = (if d.n then -1 else 1) * ((d.m * 2 ^ (F.fr + 2) * 2 ^ (d.e - (F.fr + 2 : Nat) - L).toNat : Nat) : Int):=by
   unfold iv
   rw [Nat.mul_assoc,← Nat.pow_add]
   congr 4
   omega
  unfold Nr
  rw [ZbA f1]
  refine ⟨g1,?_⟩
  rw [hd,g2]
  generalize d.m * 2 ^ (F.fr + 2) * 2 ^ (d.e - (F.fr + 2 : Nat) - L).toNat = X at *
  generalize 2 ^ (F.fr + 1) * 2 ^ (F.low - L).toNat = Z at *
  have q : ((if d.n = true then (-1 : Int) else 1) * (X : Int) - (if d.n = true then -1 else 1) * (m : Int)).natAbs = (X - m) + (m - X):=by cases d.n <;> simp <;> omega
  have q2 : ((if d.n = true then (-1 : Int) else 1) * (m : Int)).natAbs = m:=by cases d.n <;> simp
  rw [q,q2]
  generalize 2 * 2 ^ (F.fr + 1) = p at *
  rw [Nat.mul_add,Nat.mul_sub,Nat.mul_sub]
  omega
theorem ZDZ (F : Fm) {d : Dy} (nz : Nz d) (h0 : d.m≠0) (hn : d.n = false) : (rndW F 4 d).1 < 2 * F.sg∧(F.cls (rndW F 4 d).1 = 4∨(F.fin (rndW F 4 d).1∧∀ L,L≤F.low→L≤d.e - 60→LoE (F.vl (rndW F 4 d).1) L∧iv d L≤iv (F.vl (rndW F 4 d).1) L)):=by
 have hF:=Zak F
 have ho:=nz.2 h0
 have hb:=Zam h0 (F.fr + 2)
 have hb1:=Zbg h0
 have e : d = mkD false (d.m * 2 ^ (F.fr + 2)) (d.e - (F.fr + 2 : Nat)):=by rw [Zjv ho,← hn]
 have hs:=Zpi F 4 false (M:=d.m * 2 ^ (F.fr + 2)) (d.e - (F.fr + 2 : Nat)) (by omega)
 rw [← e] at hs
 rw [hs]
 have hf : ∀ L,L≤F.low→L≤d.e - 60→(sW F 4 false (d.m * 2 ^ (F.fr + 2)) false (d.e - (F.fr + 2 : Nat))).1 < 2 * F.sg∧(F.cls (sW F 4 false (d.m * 2 ^ (F.fr + 2)) false (d.e - (F.fr + 2 : Nat))).1 = 4∨(F.fin (sW F 4 false (d.m * 2 ^ (F.fr + 2)) false (d.e - (F.fr + 2 : Nat))).1∧LoE (F.vl (sW F 4 false (d.m * 2 ^ (F.fr + 2)) false (d.e - (F.fr + 2 : Nat))).1) L∧iv d L≤iv (F.vl (sW F 4 false (d.m * 2 ^ (F.fr + 2)) false (d.e - (F.fr + 2 : Nat))).1) L)):=fun L l1 l2 => by
  obtain ⟨q1,q2⟩:=ZCc F (Q:=d.m * 2 ^ (F.fr + 2)) false (d.e - (F.fr + 2 : Nat)) (by omega) (L:=L) l1 (by omega)
  refine ⟨q1,q2.imp id fun ⟨g1,g2,g3⟩ => ⟨g1,?_⟩⟩
  rw [ZbA g1]
  refine ⟨g3,Int.le_trans (Int.le_of_eq ?_) g2⟩
  unfold iv
  rw [hn]
  simp only [Bool.toNat_false,Nat.add_zero,Bool.false_eq_true,if_false,Int.one_mul]
  rw [Nat.mul_assoc,← Nat.pow_add]
  congr 3
  omega
 obtain ⟨a1,a2⟩:=hf (min F.low (d.e - 60)) (by omega) (by omega)
 refine ⟨a1,a2.imp id fun ⟨b1,_⟩ => ⟨b1,fun L l1 l2 => ?_⟩⟩
 obtain ⟨_,c⟩:=hf L l1 l2
 rcases c with c | c
 ·have:=Zat.1 b1; omega
 ·exact c.2
end Go.Cv
namespace Go.Cv
def NB (x y n : Int) : Prop:=0≤n∧x * x + y * y≤n * n
theorem NB.mono {x y a b : Int} (h : NB x y a) (hab : a≤b) : NB x y b :=
 ⟨Int.le_trans h.1 hab,Int.le_trans h.2 (Int.mul_le_mul hab hab h.1 (Int.le_trans h.1 hab))⟩
theorem NB.add {x y z w a b : Int} (h : NB x y a) (k : NB z w b) : NB (x + z) (y + w) (a + b):=by
 obtain ⟨a0,h1⟩:=h
 obtain ⟨b0,k1⟩:=k
 refine ⟨by omega,?_⟩
 have e : (x * z + y * w) * (x * z + y * w)≤(a * b) * (a * b):=by
  have c1 : (x * z + y * w) * (x * z + y * w) + (x * w - y * z) * (x * w - y * z) = (x * x + y * y) * (z * z + w * w):=by grind
  have c2:=ZlU (x * w - y * z)
  have c3:=Int.mul_le_mul h1 k1 (by have:=ZlU z; have:=ZlU w; omega) (by have:=ZlU a; omega)
  have c4 : a * a * (b * b) = (a * b) * (a * b):=by grind
  omega
 have f:=ZFm (Int.mul_nonneg a0 b0) e
 have g : (x + z) * (x + z) + (y + w) * (y + w) = (x * x + y * y) + (z * z + w * w) + 2 * (x * z + y * w):=by grind
 have g2 : (a + b) * (a + b) = a * a + b * b + 2 * (a * b):=by grind
 omega
theorem NB.mul {x y z w a b : Int} (h : NB x y a) (k : NB z w b) : NB (x * z - y * w) (x * w + y * z) (a * b):=by
 obtain ⟨a0,h1⟩:=h
 obtain ⟨b0,k1⟩:=k
 refine ⟨Int.mul_nonneg a0 b0,?_⟩
 have c1 : (x * z - y * w) * (x * z - y * w) + (x * w + y * z) * (x * w + y * z) = (x * x + y * y) * (z * z + w * w):=by grind
 have c3:=Int.mul_le_mul h1 k1 (by have:=ZlU z; have:=ZlU w; omega) (by have:=ZlU a; omega)
 have c4 : a * a * (b * b) = (a * b) * (a * b):=by grind
 omega
theorem NB.scale {x y a k : Int} (h : NB x y a) (hk : 0≤k) : NB (k * x) (k * y) (k * a):=by
 refine ⟨Int.mul_nonneg hk h.1,?_⟩
 have e:=Int.mul_le_mul_of_nonneg_left h.2 (ZlU k)
 have e1 : k * k * (x * x + y * y) = k * x * (k * x) + k * y * (k * y):=by grind
 have e2 : k * k * (a * a) = k * a * (k * a):=by grind
 omega
theorem NB.unscale {x y a k : Int} (h : NB (k * x) (k * y) (k * a)) (hk : 0 < k) : NB x y a:=by
 obtain ⟨h0,h1⟩:=h
 have a0 : 0≤a:=by
  rcases Int.lt_or_le a 0 with q | q
  ·have:=Int.mul_neg_of_pos_of_neg hk q; omega
  ·exact q
 refine ⟨a0,?_⟩
 have e1 : k * k * (x * x + y * y) = k * x * (k * x) + k * y * (k * y):=by grind
 have e2 : k * k * (a * a) = k * a * (k * a):=by grind
 have kk : 0 < k * k:=Int.mul_pos hk hk
 exact Int.le_of_mul_le_mul_left (by omega) kk
theorem NB.parts {x y x' y' a : Int} (h : NB x' y' a) (hx : x.natAbs≤x'.natAbs) (hy : y.natAbs≤y'.natAbs) : NB x y a:=by
 refine ⟨h.1,Int.le_trans ?_ h.2⟩
 have s : ∀ u v : Int,u.natAbs≤v.natAbs→u * u≤v * v:=fun u v q => by
  have:=Nat.mul_le_mul q q
  rw [← Int.natAbs_mul_self,← Int.natAbs_mul_self (a:=v)]
  exact Int.ofNat_le.2 this
 have:=s x x' hx
 have:=s y y' hy
 omega
end Go.Cv
namespace Go.Cv
variable {G : Nat→Option (List AV)} {T : Tbl} {g : Nat}
theorem ZrK (F : Fm) {m : Int} (hm : 1≤m∧m≤5) (d : Dy) : (sumW F m d).1 < 2 * F.sg:=by
 have hi:=ZdS F
 unfold sumW; split
 ·unfold Fm.sgn; simp only; split <;> omega
 ·obtain ⟨s,n,e,h1,_⟩:=Zph F hm.1 hm.2 d
  rw [e]; exact ZCy n h1
theorem Zoj (F : Fm) (md : Int) {a b : Nat} (fa : F.fin a) (fb : F.fin b) : absZ F md a b = rtW F md (sqD F a b):=by
 have ca:=Zat.1 fa
 have cb:=Zat.1 fb
 unfold absZ toldW zcl
 rw [if_neg (show ¬ (F.cls a = 4∨F.cls b = 4) by omega),if_neg (show ¬ (F.cls a = 5∨F.cls b = 5) by omega)]
 split <;> simp
theorem Zut (F : Fm) {a b : Nat} {L : Int} (la : LoE (F.vl a) L) (lb : LoE (F.vl b) L) : iv (sqD F a b) (2 * L) = iv (F.vl a) L * iv (F.vl a) L + iv (F.vl b) L * iv (F.vl b) L:=by
 obtain ⟨p1,p2⟩:=Zbb la la
 obtain ⟨q1,q2⟩:=Zbb lb lb
 unfold sqD
 rw [show 2 * L = L + L by omega,(Zbx p2 q2).1,p1,q1]
theorem ZgB (J : Al G T g) (F : Fm) {a b : Nat} (ha : a < 2 * F.sg) (hb : b < 2 * F.sg) : run G T 250 [.int .u8 F.u,zA a b] = some (.bool (decide (F.fin a∧F.fin b))):=by
 rw [Zac G T J.J.ZgB]
 have f1:=ZeG J F (Zkf ha)
 have f2:=ZeG J F (Zkf hb)
 simp only [zA]
 by_cases p : F.fin a
 ·rw [decide_eq_true p] at f1
  by_cases q : F.fin b
  ·rw [decide_eq_true q] at f2
   rw [decide_eq_true (show F.fin a∧F.fin b from ⟨p,q⟩)]
   repeat' (first|simp (maxSteps:=9^7) only [seval,exC,ZbP,f1,f2]|simp (maxSteps:=9^7) (disch:=first|with_reducible assumption|omega) only [dxB]|(simp only [kdB];split)|(simp only [kvB];split))
  ·rw [decide_eq_false q] at f2
   rw [decide_eq_false (show ¬ (F.fin a∧F.fin b) from fun h => q h.2)]
   repeat' (first|simp (maxSteps:=9^7) only [seval,exC,ZbP,f1,f2]|simp (maxSteps:=9^7) (disch:=first|with_reducible assumption|omega) only [dxB]|(simp only [kdB];split)|(simp only [kvB];split))
 ·rw [decide_eq_false p] at f1
  rw [decide_eq_false (show ¬ (F.fin a∧F.fin b) from fun h => p h.1)]
  repeat' (first|simp (maxSteps:=9^7) only [seval,exC,ZbP,f1]|simp (maxSteps:=9^7) (disch:=first|with_reducible assumption|omega) only [dxB]|(simp only [kdB];split)|(simp only [kvB];split))
def zrA (p q : Nat × Nat) : AV:=.agg [.int .u64 (p.1 : Int),.int .u64 (q.1 : Int),.int .u8 (p.2 : Int),.int .u8 (q.2 : Int)]
def numA (z : Bool) (x : Dy × Bool) : AV:=.agg [.bool x.1.n,D z (dl x.1.m),.int .i64 x.1.e,.bool x.2]
def tm (F : Fm) (a b : Nat) (minus : Bool) : Dy × Bool:=(if minus then negD (mulD (F.vl a) (F.vl b)) else mulD (F.vl a) (F.vl b),(F.ng a != F.ng b) != minus)
def zsg (md : Int) (x y : Dy × Bool) : Bool:=if x.1.m = 0∧y.1.m = 0∧x.2 = y.2 then x.2 else decide (md = 5)
def ptQ (F : Fm) (md : Int) (d : Dy) (n : Bool) (by' : Dy) : Nat × Nat:=if d.m = 0 then (F.sgn n,0) else quoW F md d by'
theorem Zli (F : Fm) (a b : Nat) : Bd (mulD (F.vl a) (F.vl b)) 2400:=by
 have hF:=Zak F
 by_cases h1 : (F.vl a).m = 0
 ·rw [Zid (Or.inl h1)]; exact ⟨by simp only [Zai]; omega,by simp,by simp⟩
 ·by_cases h2 : (F.vl b).m = 0
  ·rw [Zid (Or.inr h2)]; exact ⟨by simp only [Zai]; omega,by simp,by simp⟩
  ·have fa : F.fin a:=by
    by_cases h : F.fin a
    ·exact h
    ·exfalso; apply h1; unfold Fm.vl; rw [if_neg h]
   have fb : F.fin b:=by
    by_cases h : F.fin b
    ·exact h
    ·exfalso; apply h2; unfold Fm.vl; rw [if_neg h]
   have e1:=Zgz F fa (by rw [← ZbA fa]; exact h1)
   have e2:=Zgz F fb (by rw [← ZbA fb]; exact h2)
   rw [← ZbA fa] at e1
   rw [← ZbA fb] at e2
   obtain ⟨_,a1,a2,a3⟩:=e1
   obtain ⟨_,b1,b2,b3⟩:=e2
   have hb:=ZpI a1 b1
   rw [ZAa (ZbX F a) (ZbX F b) h1 h2]
   exact ⟨by simp only; omega,by simp only; omega,by simp only; omega⟩
theorem ZlS (F : Fm) (a b : Nat) (s : Bool) : Bd (tm F a b s).1 2400∧Nz (tm F a b s).1:=by
 unfold tm; cases s
 ·exact ⟨Zli F a b,ZbB _ _⟩
 ·exact ⟨(Zli F a b).neg,ZrR (ZbB _ _)⟩
theorem Zib (J : Al G T g) (F : Fm) {w : Nat} (hw : w < 2 * F.sg) :
  ∃ z,run G T 296 [.int .u8 F.u,.int .u64 (w : Int)] = some (numA z (F.vl w,F.ng w)):=by
 apply exP
 rw [Zac G T J.J.Zib]
 obtain ⟨z,k,h1⟩:=ZbS J F hw
 have h2:=ZdX J F hw
 generalize F.vl w = v at *
 generalize F.ng w = n at *
 simp only [fldA,DyA,A3,numA] at *
 repeat' (first|simp (maxSteps:=9^7) only [seval,exC,ZeR,h1,h2]|simp (maxSteps:=9^7) (disch:=first|with_reducible assumption|omega) only [dxB]|(simp only [kdB];split)|(simp only [kvB];split))
 all_goals exact ⟨_,rfl,z,rfl⟩
theorem Zbw (J : Al G T g) {z y n k : Bool} {a b : Dy} (na : Nz a) (nb : Nz b) (ha : Bd a 16384) (hb : Bd b 16384) :
  ∃ z',run G T 278 [numA z (a,n),numA y (b,k)] = some (numA z' (mulD a b,n != k)):=by
 apply exP
 rw [Zac G T J.J.Zbw]
 obtain ⟨z',h1⟩:=Zjn J (z:=z) (y:=y) ha hb (ZaQ na (ha.mono (by decide))) (ZaQ nb (hb.mono (by decide)))
 generalize mulD a b = d at *
 have hne : (n != k) = !decide (n = k):=by cases n <;> cases k <;> rfl
 rw [hne]
 simp only [DyA,A3,numA] at *
 repeat' (first|simp (maxSteps:=9^7) only [seval,exC,Zcm,h1]|simp (maxSteps:=9^7) (disch:=first|with_reducible assumption|omega) only [dxB]|(simp only [kdB];split)|(simp only [kvB];split))
 all_goals exact ⟨_,rfl,z',rfl⟩
theorem ZfO (J : Al G T g) {z n : Bool} {a : Dy} (na : Nz a) (ha : Bd a 131072) :
  ∃ z',run G T 279 [numA z (a,n)] = some (numA z' (negD a,!n)):=by
 apply exP
 rw [Zac G T J.J.ZfO]
 obtain ⟨z',h1⟩:=Zox J (z:=z) (d:=a) (ZaQ na ha)
 generalize negD a = d at *
 simp only [DyA,A3,numA] at *
 repeat' (first|simp (maxSteps:=9^7) only [seval,exC,Zcl,h1]|simp (maxSteps:=9^7) (disch:=first|with_reducible assumption|omega) only [dxB]|(simp only [kdB];split)|(simp only [kvB];split))
 all_goals exact ⟨_,rfl,z',rfl⟩
theorem Zeo (J : Al G T g) {z y n k : Bool} {a b : Dy} {md : Int} (na : Nz a) (nb : Nz b) (ha : Bd a 16384) (hb : Bd b 16384) :
  ∃ z' s,run G T 295 [numA z (a,n),numA y (b,k),.int .u8 md] = some (numA z' (addD a b,s))∧((addD a b).m = 0→s = zsg md (a,n) (b,k)):=by
 rw [Zac G T J.J.Zeo]
 obtain ⟨z',h1⟩:=Zkw J (z:=z) (y:=y) ha hb (ZaQ na (ha.mono (by decide))) (ZaQ nb (hb.mono (by decide)))
 have md':=ZaQ (ZcT na nb) ((ZlI ha hb).mono (by decide))
 have ma':=ZaQ na (ha.mono (by decide))
 have s1:=Zck J (n:=(addD a b).n) (z:=z') (Zas (addD a b).m) (e:=(addD a b).e)
 rw [Zfp md'] at s1
 have s2:=Zck J (n:=a.n) (z:=z) (Zas a.m) (e:=a.e)
 rw [Zfp ma'] at s2
 have hz : (addD a b).m = 0→a.m = 0→b.m = 0:=by intro h ha0; unfold addD at h; rw [if_pos ha0] at h; exact h
 unfold zsg
 generalize addD a b = d at *
 clear md' ma' na nb ha hb
 obtain ⟨an,am,ae⟩:=a
 obtain ⟨dn,dm,de⟩:=d
 simp only [DyA,A3,numA] at *
 by_cases d0 : dm = 0
 ·rw [if_pos d0] at s1
  by_cases a0 : am = 0
  ·rw [if_pos a0] at s2
   have b0:=hz d0 a0
   by_cases e : n = k
   ·refine ⟨z',n,?_,fun _ => by rw [if_pos ⟨a0,b0,e⟩]⟩
    subst e
    repeat' (first|simp (maxSteps:=9^7) only [seval,exC,ZaU,h1,s1,s2]|simp (maxSteps:=9^7) (disch:=first|with_reducible assumption|omega) only [dxB]|(simp only [kdB];split)|(simp only [kvB];split))
   ·refine ⟨z',decide (md = 5),?_,fun _ => by rw [if_neg (fun h => e h.2.2)]⟩
    repeat' (first|simp (maxSteps:=9^7) only [seval,exC,ZaU,h1,s1,s2,e]|simp (maxSteps:=9^7) (disch:=first|with_reducible assumption|omega) only [dxB]|(simp only [kdB];split)|(simp only [kvB];split))
  ·rw [if_neg a0] at s2
   refine ⟨z',decide (md = 5),?_,fun _ => by rw [if_neg (fun h => a0 h.1)]⟩
   cases an <;> (simp only [Bool.false_eq_true,if_false,if_true] at s2; repeat' (first|simp (maxSteps:=9^7) only [seval,exC,ZaU,h1,s1,s2]|simp (maxSteps:=9^7) (disch:=first|with_reducible assumption|omega) only [dxB]|(simp only [kdB];split)|(simp only [kvB];split)))
 ·rw [if_neg d0] at s1
  refine ⟨z',dn,?_,fun h => absurd h d0⟩
  cases dn <;> (simp only [Bool.false_eq_true,if_false,if_true] at s1; repeat' (first|simp (maxSteps:=9^7) only [seval,exC,ZaU,h1,s1]|simp (maxSteps:=9^7) (disch:=first|with_reducible assumption|omega) only [dxB]|(simp only [kdB];split)|(simp only [kvB];split)))
def gaussA (z y : Bool) (p q : Dy × Bool) : AV:=.agg [.bool p.1.n,D z (dl p.1.m),.int .i64 p.1.e,.bool p.2,.bool q.1.n,D y (dl q.1.m),.int .i64 q.1.e,.bool q.2]
def workA (F : Fm) (md : Int) : AV:=.agg [.int .u8 F.u,.int .u8 md]
def oneD : Dy:=⟨false,1,0⟩
theorem Zfl (J : Al G T g) (F : Fm) {a b : Nat} (ha : a < 2 * F.sg) (hb : b < 2 * F.sg) :
  ∃ z y,run G T 271 [.int .u8 F.u,zA a b] = some (gaussA z y (F.vl a,F.ng a) (F.vl b,F.ng b)):=by
 rw [Zac G T J.J.Zfl]
 obtain ⟨z,h1⟩:=Zib J F ha
 obtain ⟨y,h2⟩:=Zib J F hb
 refine ⟨z,y,?_⟩
 generalize F.vl a = v at *
 generalize F.ng a = n at *
 generalize F.vl b = w at *
 generalize F.ng b = k at *
 simp only [zA,gaussA,numA] at *
 repeat' (first|simp (maxSteps:=9^7) only [seval,exC,Zdg,h1,h2]|simp (maxSteps:=9^7) (disch:=first|with_reducible assumption|omega) only [dxB]|(simp only [kdB];split)|(simp only [kvB];split))
theorem ZeN (J : Al G T g) (F : Fm) {md : Int} {z1 z2 y1 y2 n1 n2 k1 k2 : Bool} {a b c d : Dy} (na : Nz a) (nb : Nz b) (nc : Nz c) (nd : Nz d) (ha : Bd a 4096) (hb : Bd b 4096) (hc : Bd c 4096) (hd : Bd d 4096) :
  ∃ z y s t,run G T 270 [workA F md,gaussA z1 z2 (a,n1) (b,n2),gaussA y1 y2 (c,k1) (d,k2)] = some (gaussA z y (addD (mulD a c) (negD (mulD b d)),s) (addD (mulD a d) (mulD b c),t)) ∧
   ((addD (mulD a c) (negD (mulD b d))).m = 0→s = zsg md (mulD a c,n1 != k1) (negD (mulD b d),!(n2 != k2)))∧((addD (mulD a d) (mulD b c)).m = 0→t = zsg md (mulD a d,n1 != k2) (mulD b c,n2 != k1)):=by
 rw [Zac G T J.J.ZeN]
 obtain ⟨u1,h1⟩:=Zbw J (z:=z1) (y:=y1) (n:=n1) (k:=k1) na nc (ha.mono (by decide)) (hc.mono (by decide))
 obtain ⟨u2,h2⟩:=Zbw J (z:=z2) (y:=y2) (n:=n2) (k:=k2) nb nd (hb.mono (by decide)) (hd.mono (by decide))
 obtain ⟨u3,h3⟩:=ZfO J (z:=u2) (n:=n2 != k2) (ZbB b d) ((ZfY hb hd).mono (by decide))
 obtain ⟨u4,s,h4,e4⟩:=Zeo J (z:=u1) (y:=u3) (n:=n1 != k1) (k:=!(n2 != k2)) (md:=md) (ZbB a c) (ZrR (ZbB b d)) (ZfY ha hc) (ZfY hb hd).neg
 obtain ⟨u5,h5⟩:=Zbw J (z:=z1) (y:=y2) (n:=n1) (k:=k2) na nd (ha.mono (by decide)) (hd.mono (by decide))
 obtain ⟨u6,h6⟩:=Zbw J (z:=z2) (y:=y1) (n:=n2) (k:=k1) nb nc (hb.mono (by decide)) (hc.mono (by decide))
 obtain ⟨u7,t,h7,e7⟩:=Zeo J (z:=u5) (y:=u6) (n:=n1 != k2) (k:=n2 != k1) (md:=md) (ZbB a d) (ZbB b c) (ZfY ha hd) (ZfY hb hc)
 refine ⟨u4,u7,s,t,?_,e4,e7⟩
 clear e4 e7 ha hb hc hd na nb nc nd
 generalize addD (mulD a c) (negD (mulD b d)) = X at *
 generalize addD (mulD a d) (mulD b c) = Y at *
 generalize negD (mulD b d) = e at *
 generalize mulD a c = m1 at *
 generalize mulD b d = m2 at *
 generalize mulD a d = m3 at *
 generalize mulD b c = m4 at *
 generalize (!(n2 != k2)) = q0 at *
 generalize (n1 != k1) = q1 at *
 generalize (n2 != k2) = q2 at *
 generalize (n1 != k2) = q3 at *
 generalize (n2 != k1) = q4 at *
 simp only [gaussA,workA,numA] at *
 repeat' (first|simp (maxSteps:=9^7) only [seval,exC,ZbV,h1,h2,h3,h4,h5,h6,h7]|simp (maxSteps:=9^7) (disch:=first|with_reducible assumption|omega) only [dxB]|(simp only [kdB];split)|(simp only [kvB];split))
theorem Zdz (J : Al G T g) (F : Fm) {md : Int} (hm : 1≤md∧md≤5) {z y s : Bool} {d b : Dy} (nd : Nz d) (nb : Nz b) (hd : Bd d 65537) (hb : Bd b 65537) (b0 : b.m≠0) :
  run G T 294 [workA F md,numA z (d,s),DyA y b] = some (.tup [.int .u64 ((ptQ F md d s b).1 : Int),.int .u8 ((ptQ F md d s b).2 : Int)]):=by
 rw [Zac G T J.J.Zdz]
 have ma:=ZaQ nd (hd.mono (by decide))
 have s1:=Zck J (n:=d.n) (z:=z) (Zas d.m) (e:=d.e)
 rw [Zfp ma] at s1
 unfold ptQ
 by_cases d0 : d.m = 0
 ·rw [if_pos d0] at s1 ⊢
  have w1:=Zjb J F (n:=s)
  generalize F.sgn s = S at *
  simp only [workA,numA,DyA,A3,cast0] at *
  repeat' (first|simp (maxSteps:=9^7) only [seval,exC,Zbt,s1,w1]|simp (maxSteps:=9^7) (disch:=first|with_reducible assumption|omega) only [dxB]|(simp only [kdB];split)|(simp only [kvB];split))
 ·rw [if_neg d0] at s1 ⊢
  have hbl:=hd.bl
  have hbb:=hb.bl
  have r1:=Znr J F hm (z:=z) (y:=y) ma (ZaQ nb (hb.mono (by decide))) d0 b0 (by unfold quoN; omega)
  generalize quoW F md d b = S at *
  obtain ⟨n,m,e⟩:=d
  simp only [workA,numA,DyA,A3] at *
  cases n <;> (simp only [Bool.false_eq_true,if_false,if_true] at s1; repeat' (first|simp (maxSteps:=9^7) only [seval,exC,Zbt,s1,r1]|simp (maxSteps:=9^7) (disch:=first|with_reducible assumption|omega) only [dxB]|(simp only [kdB];split)|(simp only [kvB];split)))
theorem ZfP (J : Al G T g) (F : Fm) {md : Int} (hm : 1≤md∧md≤5) {z z' y s t : Bool} {d e b : Dy} (nd : Nz d) (ne : Nz e) (nb : Nz b) (hd : Bd d 65537) (he : Bd e 65537) (hb : Bd b 65537) (b0 : b.m≠0) :
  run G T 269 [workA F md,gaussA z z' (d,s) (e,t),DyA y b] = some (zrA (ptQ F md d s b) (ptQ F md e t b)):=by
 rw [Zac G T J.J.ZfP]
 have h1:=Zdz J F hm (z:=z) (y:=y) (s:=s) nd nb hd hb b0
 have h2:=Zdz J F hm (z:=z') (y:=y) (s:=t) ne nb he hb b0
 generalize ptQ F md d s b = S1 at *
 generalize ptQ F md e t b = S2 at *
 simp only [workA,numA,gaussA,zrA,DyA,A3] at *
 repeat' (first|simp (maxSteps:=9^7) only [seval,exC,Zcn,h1,h2]|simp (maxSteps:=9^7) (disch:=first|with_reducible assumption|omega) only [dxB]|(simp only [kdB];split)|(simp only [kvB];split))
theorem ZvF (J : Al G T g) : ∃ z,run G T 272 [.int .i64 1] = some (DyA z oneD):=by
 apply exP
 rw [Zac G T J.J.Zow]
 obtain ⟨z1,h1⟩:=Znc J (n:=1) (by decide)
 obtain ⟨z2,h2⟩:=Zbv J (n:=false) (z:=z1) (a:=1) (e:=0) (Zal (by decide)) (Or.inr (by rw [ZtW (by decide)]; omega)) (by omega)
 rw [show mkD false 1 0 = oneD from ZoP (by decide)] at h2
 have w1 : IntKind.u64.wrap 1 = 1:=rfl
 rw [show ((1 : Nat) : Int) = 1 from rfl] at h1
 generalize oneD = d at *
 simp only [DyA,A3] at *
 repeat' (first|simp (maxSteps:=9^7) only [seval,exC,ZgY,w1,h1,h2]|simp (maxSteps:=9^7) (disch:=first|with_reducible assumption|omega) only [dxB]|(simp only [kdB];split)|(simp only [kvB];split))
 all_goals exact ⟨_,rfl,z2,rfl⟩
noncomputable def kV2 (G : Nat→Option (List AV)) (T : Tbl) (f : AV) (args : List AV) (d : Option Nat) (os : List IOper) (e : Env) (h : Heap) : Option (Env × Heap) :=
 kW G (CF G T) (match f with
  | .fn k cap => (T k).bind fun fn => kJ G fn.res (evL G T fn.body (numE 0 (args ++ cap)) h)
  | _ => none) d os e
theorem ZyK (t : Nat) (args : List IOpd) (d : Option Nat) (os : List IOper) (e : Env) (h : Heap) :
  evOps G (CF G T) (⟨d,.call true (.t t) args,none⟩ :: os) e h = kV2 G T (opd e (.t t)) (args.map (opd e)) d os e h:=by
 rw [ZtG]
 unfold kV2
 refine congrArg (fun o => kW G (CF G T) o d os e) ?_
 simp only [evW]
 cases opd e (.t t) <;> try rfl
 rename_i k cap
 simp only [ZuJ]
 cases T k with
 | none => rfl
 | some fn =>
  simp only [Option.bind_some]
  cases evL G T fn.body (numE 0 (args.map (opd e) ++ cap)) h with
  | none => rfl
  | some r => obtain ⟨x,e,h⟩:=r; cases x <;> rfl
theorem ZDv {k : Nat} {fn : IFn} (hf : T k = some fn) (cap args : List AV) (d : Option Nat) (os : List IOper) (e : Env) (h : Heap) :
  kV2 G T (.fn k cap) args d os e h = kW G (CF G T) (kJ G fn.res (evL G T fn.body (numE 0 (args ++ cap)) h)) d os e:=by
 unfold kV2; simp only [hf,Option.bind_some]
theorem ZxH {k w : Nat} (h : w < 2 ^ k) : w ^^^ 2 ^ k = 2 ^ k + w:=by
 apply Nat.eq_of_testBit_eq
 intro j
 rw [Nat.testBit_xor]
 rcases Nat.lt_trichotomy j k with q | q | q
 ·rw [Nat.testBit_two_pow_of_ne (by omega),Nat.testBit_two_pow_add_gt q,Bool.xor_false]
 ·subst q
  rw [Nat.testBit_two_pow_self,Nat.testBit_two_pow_add_eq,Nat.testBit_lt_two_pow h]; rfl
 ·have h2:=Nat.pow_le_pow_right (n:=2) (by decide) (show k + 1≤j from q)
  rw [Nat.pow_succ] at h2
  rw [Nat.testBit_two_pow_of_ne (by omega),Nat.testBit_lt_two_pow (by omega),Nat.testBit_lt_two_pow (by omega)]; rfl
theorem ZEw (F : Fm) {w : Nat} (hw : w < 2 * F.sg) : w ^^^ F.sg = F.flip w:=by
 obtain ⟨k,hk⟩ : ∃ k,F.sg = 2 ^ k:=by cases F; exact ⟨31,rfl⟩; exact ⟨63,rfl⟩
 unfold Fm.flip Fm.ng Fm.sgn
 rw [hk] at hw ⊢
 have hp:=Nat.two_pow_pos k
 by_cases h : 2 ^ k≤w
 ·rw [decide_eq_true h,Bool.not_true,if_neg (by decide),Nat.mod_eq_sub_mod h,Nat.mod_eq_of_lt (by omega),Nat.add_zero]
  have e:=ZxH (k:=k) (w:=w - 2 ^ k) (by omega)
  rw [show 2 ^ k + (w - 2 ^ k) = w by omega] at e
  rw [← e,Nat.xor_assoc,Nat.xor_self,Nat.xor_zero]
  rw [e]
 ·rw [decide_eq_false h,Bool.not_false,if_pos rfl,Nat.mod_eq_of_lt (by omega),ZxH (by omega),Nat.add_comm]
theorem xor64 {a b : Nat} (ha : a < 18446744073709551616) (hb : b < 18446744073709551616) : xorI .u64 (a : Int) (b : Int) = ((a ^^^ b : Nat) : Int):=by
 have : a ^^^ b < 2 ^ 64:=Nat.xor_lt_two_pow (n:=64) ha hb
 rw [ZpD]
 show IntKind.u64.wrap ((BitVec.ofInt 64 a ^^^ BitVec.ofInt 64 b).toNat : Int) = _
 simp only [BitVec.toNat_xor,BitVec.toNat_ofInt,Zfr]
 have e1 : ((a : Int) % (2 ^ 64 : Nat)).toNat = a:=by omega
 have e2 : ((b : Int) % (2 ^ 64 : Nat)).toNat = b:=by omega
 rw [e1,e2]; omega
theorem Zmq (J : Al G T g) (F : Fm) {w : Nat} (hw : w < 2 * F.sg) : run G T 310 [.int .u8 F.u,.int .u64 (w : Int)] = some (.tup [.int .u64 (F.min w : Int),.int .i64 0]):=by
 rw [Zac G T J.J.Zmq]
 have h1:=Zfz J F (Zkf hw)
 rw [if_pos hw] at h1
 have h2:=ZlG J F hw
 have h3:=ZqW J F
 have x1:=xor64 (a:=w) (b:=F.sg) (Zkf hw) (by cases F <;> decide)
 rw [ZEw F hw] at x1
 have kv:=fun cap args d os e h => ZDv (G:=G) (T:=T) J.J.word_Neg_1 cap args d os e h
 have kt:=fun d args os e h => Zla (G:=G) (T:=T) J.J.word_turned d args os e h
 unfold Fm.min
 by_cases h5 : F.cls w = 5
 ·rw [if_pos h5]
  rw [h5] at h2
  simp only [shA] at *
  repeat' (first|simp (maxSteps:=9^7) only [seval,exC,Zhf,kt,Zdx,h1,h2,h3]|simp (maxSteps:=9^7) (disch:=first|with_reducible assumption|omega) only [dxB]|(simp only [kdB];split)|(simp only [kvB];split))
 ·rw [if_neg h5]
  generalize F.cls w = c at *
  simp only [shA] at *
  repeat' (first|simp (maxSteps:=9^7) only [seval,exC,Zhf,kt,Zdx,h1,h2,h5,ZyK,kv,Zgu,Zwf,x1]|simp (maxSteps:=9^7) (disch:=first|with_reducible assumption|omega) only [dxB]|(simp only [kdB];split)|(simp only [kvB];split))
def sd (F : Fm) (w : Nat) (inf : Bool) : Int × Bool :=
 if F.cls w = 5 then (0,false) else if (if inf then F.cls w = 4 else F.cls w≠1) then (if F.ng w then (-1,true) else (1,false)) else (0,F.ng w)
def sT (a b : Int × Bool) : Int × Bool:=(a.1 * b.1,a.2 != b.2)
def sM (a : Int × Bool) : Int × Bool:=(-a.1,!a.2)
def sP (md : Int) (a b : Int × Bool) : Int × Bool:=if a.1 + b.1≠0 then (a.1 + b.1,decide (a.1 + b.1 < 0)) else if a.1 = 0∧a.2 = b.2 then a else (0,decide (md = 5))
def SdC (p : Int × Bool) : Prop:=p = (-1,true)∨p = (1,false)∨p = (0,true)∨p = (0,false)
theorem sd_c (F : Fm) (w : Nat) (inf : Bool) : SdC (sd F w inf):=by
 unfold sd SdC
 by_cases h : F.cls w = 5
 ·rw [if_pos h]; simp
 ·rw [if_neg h]
  by_cases k : (if inf then F.cls w = 4 else F.cls w≠1)
  ·rw [if_pos k]; cases F.ng w <;> simp
  ·rw [if_neg k]; cases F.ng w <;> simp
theorem sT_c {a b : Int × Bool} (ha : SdC a) (hb : SdC b) : SdC (sT a b):=by
 rcases ha with rfl | rfl | rfl | rfl <;> rcases hb with rfl | rfl | rfl | rfl <;> simp [SdC,sT]
theorem sM_c {a : Int × Bool} (ha : SdC a) : SdC (sM a):=by
 rcases ha with rfl | rfl | rfl | rfl <;> simp [SdC,sM]
def bxT (md : Int) (p q r s : Int × Bool) : (Int × Bool) × (Int × Bool):=(sP md (sT p r) (sM (sT q s)),sP md (sT p s) (sT q r))
def Fm.one (F : Fm) : Nat:=F.most / 2 * 2 ^ F.fr
theorem ZaH (F : Fm) (n : Bool) : F.sgn n < 2 * F.sg∧F.ng (F.sgn n) = n∧F.cls (F.sgn n) = 1∧F.vl (F.sgn n) = ⟨false,0,0⟩:=by
 have hi:=ZdS F
 obtain ⟨g1,g2,g3⟩:=Zxj F n
 have h2:=(ZeO (F:=F) (s:=0) n (by omega)).2
 rw [Nat.zero_add] at h2
 exact ⟨g1,h2,by rw [Zct g1 g2,g3],g3⟩
theorem ZDf (b : Nat) (k : IntKind) : iaddrAV 2 2 (.ptr b 0) (.int k 0) = some (.ptr b 0):=rfl
theorem ZDg (b : Nat) (k : IntKind) : iaddrAV 2 2 (.ptr b 0) (.int k 1) = some (.ptr b 2):=rfl
theorem ZDd (b : Nat) (k : IntKind) : iaddrAV 2 1 (.ptr b 0) (.int k 0) = some (.ptr b 0):=rfl
theorem ZDe (b : Nat) (k : IntKind) : iaddrAV 2 1 (.ptr b 0) (.int k 1) = some (.ptr b 1):=rfl
theorem ZDn (a b c d : AV) (k : IntKind) : indexV true 2 2 (.agg [a,b,c,d]) (.int k 0) = some (.agg [a,b]):=rfl
theorem ZDo (a b c d : AV) (k : IntKind) : indexV true 2 2 (.agg [a,b,c,d]) (.int k 1) = some (.agg [c,d]):=rfl
def sideA (p : Int × Bool) : AV:=.agg [.int .i64 p.1,.bool p.2]
def boxA (p q : Int × Bool) : AV:=.agg [.int .i64 p.1,.bool p.2,.int .i64 q.1,.bool q.2]
theorem ZaT (J : Al G T g) {p q : Int × Bool} (hp : SdC p) (hq : SdC q) : run G T 308 [sideA p,sideA q] = some (sideA (sT p q)):=by
 rw [Zac G T J.J.ZaT]
 have w : IntKind.i64.wrap (p.1 * q.1) = p.1 * q.1:=Zad (by rcases hp with rfl | rfl | rfl | rfl <;> rcases hq with rfl | rfl | rfl | rfl <;> decide)
 obtain ⟨n,s⟩:=p
 obtain ⟨k,t⟩:=q
 have hne : (s != t) = !decide (s = t):=by cases s <;> cases t <;> rfl
 simp only [sideA,sT,hne] at *
 repeat' (first|simp (maxSteps:=9^7) only [seval,exC,Zbq,w]|simp (maxSteps:=9^7) (disch:=first|with_reducible assumption|omega) only [dxB]|(simp only [kdB];split)|(simp only [kvB];split))
theorem ZdD (J : Al G T g) {p : Int × Bool} (hp : SdC p) : run G T 302 [sideA p] = some (sideA (sM p)):=by
 rw [Zac G T J.J.ZdD]
 rcases hp with rfl | rfl | rfl | rfl <;> (
  have w1 : IntKind.i64.wrap (- -1) = 1:=rfl
  have w2 : IntKind.i64.wrap (-1) = -1:=rfl
  have w3 : IntKind.i64.wrap 0 = 0:=rfl
  have w4 : IntKind.i64.wrap 1 = 1:=rfl
  have w5 : IntKind.i64.wrap (-0) = 0:=rfl
  simp only [sideA,sM,Int.neg_zero,Int.reduceNeg,Int.neg_neg,Bool.not_true,Bool.not_false] at *
  repeat' (first|simp (maxSteps:=9^7) only [seval,exC,Zbp,w1,w2,w3,w4,w5]|simp (maxSteps:=9^7) (disch:=first|with_reducible assumption|omega) only [dxB]|(simp only [kdB];split)|(simp only [kvB];split)))
theorem Zcv (J : Al G T g) {md : Int} {p q : Int × Bool} (hp : SdC p) (hq : SdC q) : run G T 309 [sideA p,sideA q,.int .u8 md] = some (sideA (sP md p q)):=by
 rw [Zac G T J.J.Zcv]
 have w : IntKind.i64.wrap (p.1 + q.1) = p.1 + q.1:=Zad (by rcases hp with rfl | rfl | rfl | rfl <;> rcases hq with rfl | rfl | rfl | rfl <;> decide)
 unfold sP
 obtain ⟨n,s⟩:=p
 obtain ⟨k,t⟩:=q
 simp only [sideA] at *
 by_cases h0 : n + k = 0
 ·have h0' : ¬ n + k≠0:=fun h => h h0
  rw [if_neg h0']
  by_cases h1 : n = 0
  ·by_cases h2 : s = t
   ·rw [if_pos ⟨h1,h2⟩]
    subst h2
    rw [h0] at w
    repeat' (first|simp (maxSteps:=9^7) only [seval,exC,ZaC,w,h0,h1]|simp (maxSteps:=9^7) (disch:=first|with_reducible assumption|omega) only [dxB]|(simp only [kdB];split)|(simp only [kvB];split))
   ·rw [if_neg (fun h => h2 h.2)]
    repeat' (first|simp (maxSteps:=9^7) only [seval,exC,ZaC,w,h0,h1,h2]|simp (maxSteps:=9^7) (disch:=first|with_reducible assumption|omega) only [dxB]|(simp only [kdB];split)|(simp only [kvB];split))
  ·rw [if_neg (fun h => h1 h.1)]
   repeat' (first|simp (maxSteps:=9^7) only [seval,exC,ZaC,w,h0,h1]|simp (maxSteps:=9^7) (disch:=first|with_reducible assumption|omega) only [dxB]|(simp only [kdB];split)|(simp only [kvB];split))
 ·rw [if_pos h0]
  repeat' (first|simp (maxSteps:=9^7) only [seval,exC,ZaC,w,h0]|simp (maxSteps:=9^7) (disch:=first|with_reducible assumption|omega) only [dxB]|(simp only [kdB];split)|(simp only [kvB];split))
theorem Zes (J : Al G T g) (F : Fm) {w : Nat} {inf : Bool} (hw : w < 2 * F.sg) : run G T 307 [.int .u8 F.u,.int .u64 (w : Int),.bool inf] = some (sideA (sd F w inf)):=by
 rw [Zac G T J.J.Zes]
 have h1:=Zba J F hw
 have h2:=ZdX J F hw
 unfold sd
 generalize F.cls w = c at *
 generalize F.ng w = n at *
 generalize F.ex w = x at *
 generalize F.fc w = y at *
 simp only [fldA,sideA] at *
 by_cases h5 : c = 5
 ·subst h5
  rw [if_pos rfl]
  cases inf <;> repeat' (first|simp (maxSteps:=9^7) only [seval,exC,ZaK,h1,h2]|simp (maxSteps:=9^7) (disch:=first|with_reducible assumption|omega) only [dxB]|(simp only [kdB];split)|(simp only [kvB];split))
 ·rw [if_neg h5]
  cases inf
  ·simp only [Bool.false_eq_true,if_false]
   by_cases k : c = 1
   ·rw [if_neg (fun h => h k)]
    repeat' (first|simp (maxSteps:=9^7) only [seval,exC,ZaK,h1,h2,h5,k]|simp (maxSteps:=9^7) (disch:=first|with_reducible assumption|omega) only [dxB]|(simp only [kdB];split)|(simp only [kvB];split))
   ·rw [if_pos k]
    cases n <;> repeat' (first|simp (maxSteps:=9^7) only [seval,exC,ZaK,h1,h2,h5,k]|simp (maxSteps:=9^7) (disch:=first|with_reducible assumption|omega) only [dxB]|(simp only [kdB];split)|(simp only [kvB];split))
  ·simp only [if_true]
   by_cases k : c = 4
   ·rw [if_pos k]
    cases n <;> repeat' (first|simp (maxSteps:=9^7) only [seval,exC,ZaK,h1,h2,h5,k]|simp (maxSteps:=9^7) (disch:=first|with_reducible assumption|omega) only [dxB]|(simp only [kdB];split)|(simp only [kvB];split))
   ·rw [if_neg k]
    repeat' (first|simp (maxSteps:=9^7) only [seval,exC,ZaK,h1,h2,h5,k]|simp (maxSteps:=9^7) (disch:=first|with_reducible assumption|omega) only [dxB]|(simp only [kdB];split)|(simp only [kvB];split))
theorem Zfq (J : Al G T g) (F : Fm) {a b : Nat} {c : Int} (ha : a < 2 * F.sg) (hb : b < 2 * F.sg) : run G T 291 [.int .u8 F.u,zA a b,.int .u8 c] = some (boxA (sd F a (decide (c = 3))) (sd F b (decide (c = 3)))):=by
 rw [Zac G T J.J.Zfq]
 have h1:=Zes J F (inf:=decide (c = 3)) ha
 have h2:=Zes J F (inf:=decide (c = 3)) hb
 generalize sd F a (decide (c = 3)) = p at *
 generalize sd F b (decide (c = 3)) = q at *
 simp only [zA,sideA,boxA] at *
 repeat' (first|simp (maxSteps:=9^7) only [seval,exC,Zdu,h1,h2]|simp (maxSteps:=9^7) (disch:=first|with_reducible assumption|omega) only [dxB]|(simp only [kdB];split)|(simp only [kvB];split))
theorem ZdU (J : Al G T g) {md : Int} {p q r s : Int × Bool} (hp : SdC p) (hq : SdC q) (hr : SdC r) (hs : SdC s) :
  run G T 292 [boxA p q,boxA r s,.int .u8 md] = some (boxA (bxT md p q r s).1 (bxT md p q r s).2):=by
 rw [Zac G T J.J.ZdU]
 have h1:=ZaT J hp hr
 have h2:=ZaT J hq hs
 have h3:=ZdD J (sT_c hq hs)
 have h4:=Zcv J (md:=md) (sT_c hp hr) (sM_c (sT_c hq hs))
 have h5:=ZaT J hp hs
 have h6:=ZaT J hq hr
 have h7:=Zcv J (md:=md) (sT_c hp hs) (sT_c hq hr)
 unfold bxT
 generalize sP md (sT p r) (sM (sT q s)) = x at *
 generalize sP md (sT p s) (sT q r) = y at *
 generalize sM (sT q s) = z at *
 generalize sT p r = t1 at *
 generalize sT q s = t2 at *
 generalize sT p s = t3 at *
 generalize sT q r = t4 at *
 simp only [sideA,boxA] at *
 repeat' (first|simp (maxSteps:=9^7) only [seval,exC,ZbI,ZDf,ZDg,h1,h2,h3,h4,h5,h6,h7]|simp (maxSteps:=9^7) (disch:=first|with_reducible assumption|omega) only [dxB]|(simp only [kdB];split)|(simp only [kvB];split))
def sideW (F : Fm) (size : Nat) (p : Int × Bool) : Nat:=if p.2 then F.min (if p.1≠0 then size else 0) else if p.1≠0 then size else 0
theorem ZBf (e : Env) (h : Heap) : evL G T ZbU e h = kS G T (evL G T ZbT (keepE [1,2,6,7,10,11] e) h) ZbU:=Zae G T rfl e h
set_option maxHeartbeats 4000000 in
theorem ZdV (J : Al G T g) (F : Fm) {size : Nat} (hs : size < 2 * F.sg) {p q : Int × Bool} : run G T 293 [boxA p q,.int .u8 F.u,.int .u64 (size : Int)] = some (zA (sideW F size p) (sideW F size q)):=by
 rw [Zac G T J.J.ZdV]
 have z0 : (0 : Nat) < 2 * F.sg:=by cases F <;> decide
 have n1:=Zmq J F hs
 have n2:=Zmq J F z0
 unfold sideW
 obtain ⟨n,s⟩:=p
 obtain ⟨k,t⟩:=q
 simp only [boxA,zA,cast0] at *
 by_cases h1 : n = 0 <;> by_cases h2 : k = 0 <;> cases s <;> cases t <;> simp only [h1,h2,ne_eq,not_true_eq_false,not_false_eq_true,if_true,if_false,Bool.false_eq_true,cast0] <;>
  repeat' (first|simp (maxSteps:=9^7) only [seval,exC,ZbJ,ZDn,ZDo,ZDd,ZDe,ZBf,ZbT,h1,h2,n1,n2,wr_1,wr1,wr_2,wr2]|simp (maxSteps:=9^7) (disch:=first|with_reducible assumption|omega) only [dxB]|(simp only [kdB];split)|(simp only [kvB];split))
theorem ZgH (J : Al G T g) (F : Fm) {x : Nat} : run G T 290 [.int .u8 F.u,.int .u8 (x : Int)] = some (zrA (F.nan,x) (F.nan,x)):=by
 rw [Zac G T J.J.ZgH]
 have h1:=ZfX J F
 simp only [zrA]
 repeat' (first|simp (maxSteps:=9^7) only [seval,exC,Zel,h1]|simp (maxSteps:=9^7) (disch:=first|with_reducible assumption|omega) only [dxB]|(simp only [kdB];split)|(simp only [kvB];split))
def apC (bs : List Blk) (f : List Nat) (b n : Nat) (o : Option Blk) (w : Option (List AV)) : Option (AV × Heap) :=
 match w with
 | some nw => match o with
  | some k => if k.dead = false∧f.contains b = false∧n * 1≤k.cs.length∧n + 1≤boundApp then some (.own bs.length 0 (n + 1) 1,⟨bs.set b ⟨k.cs,true⟩ ++ [⟨k.cs.take (n * 1) ++ nw,false⟩],f⟩) else none
  | none => none
 | none => none
theorem ZEK (bs : List Blk) (f : List Nat) (b n c : Nat) : appV ⟨bs,f⟩ 1 1 (.own b 0 n 1) (.own c 0 1 1) = apC bs f b n (bs[b]?) (subB (bs[c]?) 0 1):=by
 have h1:=Zpb bs f c 0 1
 simp only [appV,sliceCells,if_true,Nat.one_mul,h1]
 cases subB (bs[c]?) 0 1 with
 | none => rfl
 | some nw =>
  simp only [Option.map_some,apC]
  cases bs[b]? with
  | none => rfl
  | some k => simp
theorem ZEI (bs : List Blk) (b : Nat) (cs nw : List AV) : apC bs [] b 0 (some ⟨cs,false⟩) (some nw) = some (.own bs.length 0 1 1,⟨bs.set b ⟨cs,true⟩ ++ [⟨nw,false⟩],[]⟩):=by
 simp [apC,boundApp]
theorem ZEJ (bs : List Blk) (b : Nat) (x1 : AV) (nw : List AV) : apC bs [] b 1 (some ⟨[x1],false⟩) (some nw) = some (.own bs.length 0 2 1,⟨bs.set b ⟨[x1],true⟩ ++ [⟨x1 :: nw,false⟩],[]⟩):=by
 simp [apC,boundApp]
theorem ZyE (h : Mem) (x y : AV) (l : List AV) : rdAt G h 2 (.iptr (x :: y :: l) 0) = some [x,y]:=by simp [rdAt]
theorem ZyF (h : Mem) (x y u v : AV) (l : List AV) : rdAt G h 2 (.iptr (x :: y :: u :: v :: l) 2) = some [u,v]:=by simp [rdAt]
theorem ZCi (e : Env) (h : Heap) : evL G T ZdO e h = kS G T (evL G T ZdN (keepE [0,10,27,28,29] e) h) ZdO:=Zae G T rfl e h
theorem Zrg (e : Env) (h : Heap) : evL G T ZfE e h = kS G T (evL G T Zca (keepE [0,21,22,23] e) h) ZfE:=Zae G T rfl e h
theorem Zlf (J : Al G T g) (F : Fm) {w : Nat} (hw : w < 18446744073709551616) : run G T 312 [.int .u8 F.u,.int .u64 (w : Int)] = some (.int .i64 (if w < 2 * F.sg then 0 else 6)):=by
 rw [Zac G T J.J.Zlf]
 have h1:=Zfz J F hw
 generalize (if w < 2 * F.sg then (0 : Int) else 6) = e at *
 simp only [shA] at *
 repeat' (first|simp (maxSteps:=9^7) only [seval,exC,ZhV,h1]|simp (maxSteps:=9^7) (disch:=first|with_reducible assumption|omega) only [dxB]|(simp only [kdB];split)|(simp only [kvB];split))
theorem ZkJ (J : Al G T g) (F : Fm) {a b : Nat} (ha : a < 18446744073709551616) (hb : b < 18446744073709551616) : run G T 304 [.int .u8 F.u,zA a b] = some (.int .i64 (if a < 2 * F.sg∧b < 2 * F.sg then 0 else 6)):=by
 rw [Zac G T J.J.ZkJ]
 have h1:=Zlf J F ha
 have h2:=Zlf J F hb
 simp only [zA]
 by_cases k1 : a < 2 * F.sg
 ·rw [if_pos k1] at h1
  by_cases k2 : b < 2 * F.sg
  ·rw [if_pos k2] at h2
   rw [if_pos ⟨k1,k2⟩]
   repeat' (first|simp (maxSteps:=9^7) only [seval,exC,ZdK,h1,h2]|simp (maxSteps:=9^7) (disch:=first|with_reducible assumption|omega) only [dxB]|(simp only [kdB];split)|(simp only [kvB];split))
  ·rw [if_neg k2] at h2
   rw [if_neg (fun h => k2 h.2)]
   repeat' (first|simp (maxSteps:=9^7) only [seval,exC,ZdK,h1,h2]|simp (maxSteps:=9^7) (disch:=first|with_reducible assumption|omega) only [dxB]|(simp only [kdB];split)|(simp only [kvB];split))
 ·rw [if_neg k1] at h1
  rw [if_neg (fun h => k1 h.1)]
  repeat' (first|simp (maxSteps:=9^7) only [seval,exC,ZdK,h1]|simp (maxSteps:=9^7) (disch:=first|with_reducible assumption|omega) only [dxB]|(simp only [kdB];split)|(simp only [kvB];split))
def im2 (a b c d : Nat) : AV:=.imm 2 [.int .u64 (a : Int),.int .u64 (b : Int),.int .u64 (c : Int),.int .u64 (d : Int)]
theorem Zpr (J : Al G T g) (F : Fm) {md : Int} (hm : 1≤md∧md≤5) {a b c d : Nat} (ha : a < 2 * F.sg) (hb : b < 2 * F.sg) (hc : c < 2 * F.sg) (hd : d < 2 * F.sg) :
  run G T 289 [.int .u8 F.u,.int .u8 md,im2 a b c d] = some (.tup [.imm 2 [.int .u8 (zcl (F.cls a) (F.cls b)),.int .u8 (zcl (F.cls c) (F.cls d))],.int .i64 0]):=by
 rw [Zac G T J.J.special_open]
 have o1:=Zde J F hm (neg:=false)
 have c1:=Zdc J F ha hb
 have c2:=Zdc J F hc hd
 generalize zcl (F.cls a) (F.cls b) = x at *
 generalize zcl (F.cls c) (F.cls d) = y at *
 simp only [zA,im2] at *
 repeat' (first|simp (maxSteps:=9^7) only [seval,exC,Zem,o1,c1,c2,ZCi,ZdN,Zyl,Zym,fa_i,ZyE,ZyF,ZEI,ZEJ,wr_1,wr1,wr_2,wr2,ZEK,List.set_cons_zero,List.set_cons_succ,List.cons_append,List.nil_append ]|simp (maxSteps:=9^7) (disch:=first|with_reducible assumption|omega) only [dxB,Zwg]|(simp only [kdB];split)|(simp only [kvB];split))
theorem Zrj (J : Al G T g) (F : Fm) {md : Int} (hm : 1≤md∧md≤5) {a b c d : Nat} (ha : a < 18446744073709551616) (hb : b < 18446744073709551616) (hc : c < 18446744073709551616) (hd : d < 18446744073709551616) :
  run G T 286 [.int .u8 F.u,.int .u8 md,im2 a b c d] = some (.int .i64 (if (a < 2 * F.sg∧b < 2 * F.sg)∧(c < 2 * F.sg∧d < 2 * F.sg) then 0 else 6)):=by
 rw [Zac G T J.J.exact_open]
 have o1:=Zde J F hm (neg:=false)
 have c1:=ZkJ J F ha hb
 have c2:=ZkJ J F hc hd
 simp only [zA,im2] at *
 by_cases k : a < 2 * F.sg∧b < 2 * F.sg
 ·rw [if_pos k] at c1
  by_cases q : c < 2 * F.sg∧d < 2 * F.sg
  ·rw [if_pos q] at c2
   rw [if_pos ⟨k,q⟩]
   repeat' (first|simp (maxSteps:=9^7) only [seval,exC,ZcV,o1,c1,c2,Zrg,Zca,Zyl,Zym,fa_i,ZyE,ZyF,wr_1,wr1,wr_2,wr2]|simp (maxSteps:=9^7) (disch:=first|with_reducible assumption|omega) only [dxB]|(simp only [kdB];split)|(simp only [kvB];split))
  ·rw [if_neg q] at c2
   rw [if_neg (fun h => q h.2)]
   repeat' (first|simp (maxSteps:=9^7) only [seval,exC,ZcV,o1,c1,c2,Zrg,Zca,Zyl,Zym,fa_i,ZyE,ZyF,wr_1,wr1,wr_2,wr2]|simp (maxSteps:=9^7) (disch:=first|with_reducible assumption|omega) only [dxB]|(simp only [kdB];split)|(simp only [kvB];split))
 ·rw [if_neg k] at c1
  rw [if_neg (fun h => k h.1)]
  repeat' (first|simp (maxSteps:=9^7) only [seval,exC,ZcV,o1,c1,Zrg,Zca,Zyl,Zym,fa_i,ZyE,ZyF,wr_1,wr1,wr_2,wr2]|simp (maxSteps:=9^7) (disch:=first|with_reducible assumption|omega) only [dxB]|(simp only [kdB];split)|(simp only [kvB];split))
def smS (F : Fm) (a b c d : Nat) : Bool:=!decide (zcl (F.cls a) (F.cls b)≤2∧zcl (F.cls c) (F.cls d)≤2)
def bx (F : Fm) (a b : Nat) : (Int × Bool) × (Int × Bool):=(sd F a (decide (zcl (F.cls a) (F.cls b) = 3)),sd F b (decide (zcl (F.cls a) (F.cls b) = 3)))
def smP (F : Fm) (md : Int) (a b c d : Nat) : (Int × Bool) × (Int × Bool):=bxT md (bx F a b).1 (bx F a b).2 (bx F c d).1 (bx F c d).2
def smW (F : Fm) (md : Int) (a b c d : Nat) : (Nat × Nat) × (Nat × Nat) :=
 if zcl (F.cls a) (F.cls b)≤2∧zcl (F.cls c) (F.cls d)≤2 then ((0,0),(0,0))
 else if zcl (F.cls a) (F.cls b) = 4∨zcl (F.cls c) (F.cls d) = 4 then ((F.nan,0),(F.nan,0))
 else if zcl (F.cls a) (F.cls b) = 1∨zcl (F.cls c) (F.cls d) = 1 then ((F.nan,1),(F.nan,1))
 else ((sideW F (F.inf false) (smP F md a b c d).1,0),(sideW F (F.inf false) (smP F md a b c d).2,0))
theorem ZnD (F : Fm) (a b : Nat) : zcl (F.cls a) (F.cls b) = 1∨zcl (F.cls a) (F.cls b) = 2∨zcl (F.cls a) (F.cls b) = 3∨zcl (F.cls a) (F.cls b) = 4:=by
 unfold zcl; repeat' split
 all_goals omega
theorem ZlN (F : Fm) (n : Bool) : F.inf n < 2 * F.sg:=by cases F <;> cases n <;> decide
theorem bx_c (F : Fm) (a b : Nat) : SdC (bx F a b).1∧SdC (bx F a b).2:=⟨sd_c _ _ _,sd_c _ _ _⟩
theorem ZoI (x y : AV) (k : IntKind) : iaddrV 1 (.imm 2 [x,y]) (.int k 0) = some (.iptr [x,y] 0):=rfl
theorem ZoJ (x y : AV) (k : IntKind) : iaddrV 1 (.imm 2 [x,y]) (.int k 1) = some (.iptr [x,y] 1):=rfl
set_option maxHeartbeats 8000000 in
theorem Zkh (J : Al G T g) (F : Fm) {md : Int} (hm : 1≤md∧md≤5) {a b c d : Nat} (ha : a < 2 * F.sg) (hb : b < 2 * F.sg) (hc : c < 2 * F.sg) (hd : d < 2 * F.sg) :
  run G T 268 [.int .u8 F.u,.int .u8 md,zA a b,zA c d] = some (.tup [zrA (smW F md a b c d).1 (smW F md a b c d).2,.bool (smS F a b c d),.int .i64 0]):=by
 rw [Zac G T J.J.Zkh]
 have o1:=Zpr J F hm ha hb hc hd
 have i1:=Zin J F (n:=false)
 have n0:=ZgH J F (x:=0)
 have n1:=ZgH J F (x:=1)
 have b1:=Zfq J F (c:=zcl (F.cls a) (F.cls b)) ha hb
 have b2:=Zfq J F (c:=zcl (F.cls c) (F.cls d)) hc hd
 have t1:=ZdU J (md:=md) (bx_c F a b).1 (bx_c F a b).2 (bx_c F c d).1 (bx_c F c d).2
 have w1:=ZdV J F (ZlN F false) (p:=(smP F md a b c d).1) (q:=(smP F md a b c d).2)
 have ra:=ZnD F a b
 have rc:=ZnD F c d
 rw [show sd F a (decide (zcl (F.cls a) (F.cls b) = 3)) = (bx F a b).1 from rfl,show sd F b (decide (zcl (F.cls a) (F.cls b) = 3)) = (bx F a b).2 from rfl] at b1
 rw [show sd F c (decide (zcl (F.cls c) (F.cls d) = 3)) = (bx F c d).1 from rfl,show sd F d (decide (zcl (F.cls c) (F.cls d) = 3)) = (bx F c d).2 from rfl] at b2
 rw [show bxT md (bx F a b).1 (bx F a b).2 (bx F c d).1 (bx F c d).2 = smP F md a b c d from rfl] at t1
 unfold smW smS
 generalize smP F md a b c d = P at *
 generalize bx F a b = p at *
 generalize bx F c d = q at *
 generalize zcl (F.cls a) (F.cls b) = x at *
 generalize zcl (F.cls c) (F.cls d) = y at *
 by_cases k0 : x≤2∧y≤2
 ·obtain ⟨x2,y2⟩:=k0
  rw [if_pos ⟨x2,y2⟩,decide_eq_true (show x≤2∧y≤2 from ⟨x2,y2⟩)]
  simp only [zA,zrA,im2,cast0,Bool.not_true] at *
  repeat' (first|simp (maxSteps:=9^7) only [seval,exC,ZaA,ZgI,ZgD,o1,ZoI,ZoJ,rp_0,rp_1,i1,x2,y2]|simp (maxSteps:=9^7) (disch:=first|with_reducible assumption|omega) only [dxB]|(simp only [kdB];split)|(simp only [kvB];split))
 ·rw [if_neg k0,decide_eq_false k0]
  by_cases k4 : x = 4∨y = 4
  ·rw [if_pos k4]
   simp only [zA,zrA,im2,cast0,Bool.not_false] at *
   rcases k4 with rfl | rfl
   ·repeat' (first|simp (maxSteps:=9^7) only [seval,exC,ZaA,ZgI,ZgD,o1,ZoI,ZoJ,rp_0,rp_1,i1,n0]|simp (maxSteps:=9^7) (disch:=first|with_reducible assumption|omega) only [dxB]|(simp only [kdB];split)|(simp only [kvB];split))
   ·by_cases h4 : x = 4
    ·subst h4
     repeat' (first|simp (maxSteps:=9^7) only [seval,exC,ZaA,ZgI,ZgD,o1,ZoI,ZoJ,rp_0,rp_1,i1,n0]|simp (maxSteps:=9^7) (disch:=first|with_reducible assumption|omega) only [dxB]|(simp only [kdB];split)|(simp only [kvB];split))
    ·by_cases h2 : x≤2
     ·repeat' (first|simp (maxSteps:=9^7) only [seval,exC,ZaA,ZgI,ZgD,o1,ZoI,ZoJ,rp_0,rp_1,i1,h2,h4,n0]|simp (maxSteps:=9^7) (disch:=first|with_reducible assumption|omega) only [dxB]|(simp only [kdB];split)|(simp only [kvB];split))
     ·repeat' (first|simp (maxSteps:=9^7) only [seval,exC,ZaA,ZgI,ZgD,o1,ZoI,ZoJ,rp_0,rp_1,i1,h2,h4,n0]|simp (maxSteps:=9^7) (disch:=first|with_reducible assumption|omega) only [dxB]|(simp only [kdB];split)|(simp only [kvB];split))
  ·rw [if_neg k4]
   have e4 : ¬ x = 4:=fun h => k4 (Or.inl h)
   have f4 : ¬ y = 4:=fun h => k4 (Or.inr h)
   by_cases k1 : x = 1∨y = 1
   ·rw [if_pos k1]
    simp only [zA,zrA,im2,cast0,Bool.not_false,Int.cast_ofNat_Int] at *
    rcases k1 with rfl | rfl
    ·have y2 : ¬ y≤2:=fun h => k0 ⟨by omega,h⟩
     repeat' (first|simp (maxSteps:=9^7) only [seval,exC,ZaA,ZgI,ZgD,o1,ZoI,ZoJ,rp_0,rp_1,i1,y2,f4,n1]|simp (maxSteps:=9^7) (disch:=first|with_reducible assumption|omega) only [dxB]|(simp only [kdB];split)|(simp only [kvB];split))
    ·have x2 : ¬ x≤2:=fun h => k0 ⟨h,by omega⟩
     have x1 : ¬ x = 1:=by omega
     repeat' (first|simp (maxSteps:=9^7) only [seval,exC,ZaA,ZgI,ZgD,o1,ZoI,ZoJ,rp_0,rp_1,i1,x2,e4,x1,n1]|simp (maxSteps:=9^7) (disch:=first|with_reducible assumption|omega) only [dxB]|(simp only [kdB];split)|(simp only [kvB];split))
   ·rw [if_neg k1]
    have e1 : ¬ x = 1:=fun h => k1 (Or.inl h)
    have f1 : ¬ y = 1:=fun h => k1 (Or.inr h)
    simp only [zA,zrA,im2,cast0,boxA,Bool.not_false] at *
    by_cases x2 : x≤2
    ·have y2 : ¬ y≤2:=fun h => k0 ⟨x2,h⟩
     repeat' (first|simp (maxSteps:=9^7) only [seval,exC,ZaA,ZgI,ZgD,o1,ZoI,ZoJ,rp_0,rp_1,i1,x2,y2,e4,f4,e1,f1,b1,b2,t1,w1]|simp (maxSteps:=9^7) (disch:=first|with_reducible assumption|omega) only [dxB]|(simp only [kdB];split)|(simp only [kvB];split))
    ·repeat' (first|simp (maxSteps:=9^7) only [seval,exC,ZaA,ZgI,ZgD,o1,ZoI,ZoJ,rp_0,rp_1,i1,x2,e4,f4,e1,f1,b1,b2,t1,w1]|simp (maxSteps:=9^7) (disch:=first|with_reducible assumption|omega) only [dxB]|(simp only [kdB];split)|(simp only [kvB];split))
theorem ZjH (F : Fm) {a b : Nat} : (F.fin a∧F.fin b)↔zcl (F.cls a) (F.cls b)≤2:=by
 have ra:=ZcE F a
 have rb:=ZcE F b
 rw [Zat,Zat]
 unfold zcl
 by_cases h1 : F.cls a = 4∨F.cls b = 4
 ·rw [if_pos h1]; omega
 ·rw [if_neg h1]
  by_cases h2 : F.cls a = 5∨F.cls b = 5
  ·rw [if_pos h2]; omega
  ·rw [if_neg h2]; split <;> omega
end Go.Cv
namespace Go.Cv
variable {G : Nat→Option (List AV)} {T : Tbl} {g : Nat}
section
variable (a1 a2 a3 a4 b1 b2 b3 b4 c1 c2 c3 c4 : AV) (k : IntKind) (h : Mem) (l : List AV)
end
end Go.Cv
namespace Go.Cv
variable {G : Nat→Option (List AV)} {T : Tbl} {g : Nat}
def tw (F : Fm) (md : Int) (x y : Dy × Bool) (b : Dy) : Nat × Nat:=ptQ F md (addD x.1 y.1) (zsg md x y) b
theorem tw_s (F : Fm) (md : Int) {x y : Dy × Bool} {b : Dy} {s : Bool} (h : (addD x.1 y.1).m = 0→s = zsg md x y) : ptQ F md (addD x.1 y.1) s b = tw F md x y b:=by
 unfold tw ptQ
 by_cases h0 : (addD x.1 y.1).m = 0
 ·rw [if_pos h0,if_pos h0,h h0]
 ·rw [if_neg h0,if_neg h0]
def mulR (F : Fm) (md : Int) (a b c d : Nat) : (Nat × Nat) × (Nat × Nat):=(tw F md (tm F a c false) (tm F b d true) oneD,tw F md (tm F a d false) (tm F b c false) oneD)
def divR (F : Fm) (md : Int) (a b c d : Nat) : (Nat × Nat) × (Nat × Nat):=(tw F md (tm F a c false) (tm F b d false) (sqD F c d),tw F md (tm F b c false) (tm F a d true) (sqD F c d))
def mulZ (F : Fm) (md : Int) (a b c d : Nat) : (Nat × Nat) × (Nat × Nat):=if smS F a b c d then smW F md a b c d else mulR F md a b c d
theorem Zze : Nz oneD:=⟨fun h => absurd h (by decide),fun _ => rfl⟩
theorem ZCA {K : Nat} (h : 1≤K) : Bd oneD K:=by
 have : blen 1 = 1:=by decide
 exact ⟨by show blen 1≤K; omega,by show -(K : Int)≤0; omega,by show (0 : Int)≤K; omega⟩
theorem ZFn (F : Fm) {c d : Nat} (hc : c < 2 * F.sg) (hd : d < 2 * F.sg) (h : zcl (F.cls c) (F.cls d) = 2) : (sqD F c d).m≠0:=by
 have hf:=ZjH F (a:=c) (b:=d)
 obtain ⟨fc,fd⟩:=hf.2 (by omega)
 intro h0
 obtain ⟨L,l1,l2⟩ : ∃ L : Int,LoE (F.vl c) L∧LoE (F.vl d) L:=⟨F.low,ZaB fc,ZaB fd⟩
 have e:=Zut F l1 l2
 rw [Zah h0] at e
 have n1:=ZlU (iv (F.vl c) L)
 have n2:=ZlU (iv (F.vl d) L)
 have z : ∀ {w : Nat},w < 2 * F.sg→F.fin w→LoE (F.vl w) L→iv (F.vl w) L * iv (F.vl w) L = 0→F.cls w = 1:=fun {w} hw fw lw q => by
  have q0 : iv (F.vl w) L = 0:=by rcases Int.mul_eq_zero.1 q with q | q <;> exact q
  have:=ZwA (ZbX F w) (b:=⟨false,0,0⟩) ⟨fun _ => rfl,fun h => absurd rfl h⟩ lw (Or.inl rfl) (by rw [q0,Zah rfl])
  exact (Zct hw fw).2 (by rw [this])
 have c1:=z hc fc l1 (by omega)
 have c2:=z hd fd l2 (by omega)
 unfold zcl at h
 rw [c1,c2] at h
 simp at h
set_option maxHeartbeats 8000000 in
theorem ZmM (J : Al G T g) (F : Fm) {md : Int} (hm : 1≤md∧md≤5) {a b c d : Nat} (ha : a < 2 * F.sg) (hb : b < 2 * F.sg) (hc : c < 2 * F.sg) (hd : d < 2 * F.sg) :
  run G T 252 [.int .u8 F.u,.int .u8 md,zA a b,zA c d] = some (.tup [zrA (mulZ F md a b c d).1 (mulZ F md a b c d).2,.int .i64 0]):=by
 rw [Zac G T J.J.ZmM]
 have s1:=Zkh J F hm ha hb hc hd
 unfold mulZ
 by_cases hs : smS F a b c d = true
 ·rw [if_pos hs]
  rw [hs] at s1
  generalize smW F md a b c d = S at *
  simp only [zA,zrA] at *
  repeat' (first|simp (maxSteps:=9^7) only [seval,exC,ZfD,s1]|simp (maxSteps:=9^7) (disch:=first|with_reducible assumption|omega) only [dxB]|(simp only [kdB];split)|(simp only [kvB];split))
 ·rw [if_neg hs]
  rw [Bool.not_eq_true] at hs
  rw [hs] at s1
  obtain ⟨z1,y1,g1⟩:=Zfl J F ha hb
  obtain ⟨z2,y2,g2⟩:=Zfl J F hc hd
  obtain ⟨z,y,s,t,t1,e1,e2⟩:=ZeN J F (md:=md) (z1:=z1) (z2:=y1) (y1:=z2) (y2:=y2) (n1:=F.ng a) (n2:=F.ng b) (k1:=F.ng c) (k2:=F.ng d) (ZbX F a) (ZbX F b) (ZbX F c) (ZbX F d) (ZgU F a) (ZgU F b) (ZgU F c) (ZgU F d)
  obtain ⟨zo,i1⟩:=ZvF J
  have b1:=Zli F a c
  have b2:=(Zli F b d).neg
  have b3:=Zli F a d
  have b4:=Zli F b c
  have k1:=ZfP J F hm (z:=z) (z':=y) (y:=zo) (s:=s) (t:=t) (ZcT (ZbB (F.vl a) (F.vl c)) (ZrR (ZbB (F.vl b) (F.vl d)))) (ZcT (ZbB (F.vl a) (F.vl d)) (ZbB (F.vl b) (F.vl c))) Zze ((ZlI b1 b2).mono (by decide)) ((ZlI b3 b4).mono (by decide)) (ZCA (by decide)) (by decide)
  have r1 : ptQ F md (addD (mulD (F.vl a) (F.vl c)) (negD (mulD (F.vl b) (F.vl d)))) s oneD = (mulR F md a b c d).1:=by
   have:=tw_s F md (x:=tm F a c false) (y:=tm F b d true) (b:=oneD) (s:=s) (fun h => by
    have h2:=e1 h
    unfold tm
    simp only [Bool.false_eq_true,if_false,if_true,Bool.bne_false,Bool.bne_true]
    exact h2)
   exact this
  have r2 : ptQ F md (addD (mulD (F.vl a) (F.vl d)) (mulD (F.vl b) (F.vl c))) t oneD = (mulR F md a b c d).2:=by
   have:=tw_s F md (x:=tm F a d false) (y:=tm F b c false) (b:=oneD) (s:=t) (fun h => by
    have h2:=e2 h
    unfold tm
    simp only [Bool.false_eq_true,if_false,Bool.bne_false]
    exact h2)
   exact this
  rw [r1,r2] at k1
  clear r1 r2 e1 e2 b1 b2 b3 b4
  generalize mulR F md a b c d = R at *
  generalize smW F md a b c d = S at *
  generalize addD (mulD (F.vl a) (F.vl c)) (negD (mulD (F.vl b) (F.vl d))) = X at *
  generalize addD (mulD (F.vl a) (F.vl d)) (mulD (F.vl b) (F.vl c)) = Y at *
  generalize oneD = one at *
  generalize F.vl a = va at *
  generalize F.vl b = vb at *
  generalize F.vl c = vc at *
  generalize F.vl d = vd at *
  generalize F.ng a = na at *
  generalize F.ng b = nb at *
  generalize F.ng c = nc at *
  generalize F.ng d = nd at *
  simp only [zA,zrA,gaussA,workA,DyA,A3] at *
  repeat' (first|simp (maxSteps:=9^7) only [seval,exC,ZfD,s1,g1,g2,t1,i1,k1]|simp (maxSteps:=9^7) (disch:=first|with_reducible assumption|omega) only [dxB]|(simp only [kdB];split)|(simp only [kvB];split))
def eqsA (neg : Bool) (ls : List Bool) : AV→AV→Option AV
 | .agg a,.agg b => if (kindsA ls a && kindsA ls b) = true then (eqCells a b).map fun r => .bool (if neg then !r else r) else none
 | _,_ => none
theorem ZEi (F : CallF) (d : Option Nat) (os : List IOper) (e : Env) (h : Heap) (neg : Bool) (ls : List Bool) (x y : IOpd) : evOps G F (⟨d,.eqs neg ls x y,none⟩ :: os) e h = kV G F (eqsA neg ls (opd e x) (opd e y)) d os e h:=by
 rw [Zbz G F d _ os e h rfl]
 simp only [evQ]
 cases opd e x <;> cases opd e y <;> try rfl
 simp only [eqsA]
 split
 ·cases eqCells _ _ <;> rfl
 ·rfl
theorem ZnH (J : Al G T g) {f md : Int} {a b c d k : Nat} {p q : Nat × Nat} (h : run G T 286 [.int .u8 f,.int .u8 md,im2 a b c d] = some (.int .i64 0))
  (h1 : run G T k [.int .u8 f,.int .u8 md,.int .u64 (a : Int),.int .u64 (c : Int)] = some (.tup [.int .u64 (p.1 : Int),.int .u8 (p.2 : Int),.int .i64 0]))
  (h2 : run G T k [.int .u8 f,.int .u8 md,.int .u64 (b : Int),.int .u64 (d : Int)] = some (.tup [.int .u64 (q.1 : Int),.int .u8 (q.2 : Int),.int .i64 0])) :
  run G T 285 [.int .u8 f,.int .u8 md,zA a b,zA c d,.fn k []] = some (.tup [zrA p q,.int .i64 0]):=by
 rw [Zac G T J.J.exact_parts]
 simp only [zA,zrA,im2] at *
 repeat' (first|simp (maxSteps:=9^7) only [seval,exC,ZeS,ZgI,ZgD,h,h1,h2]|simp (maxSteps:=9^7) (disch:=first|with_reducible assumption|omega) only [dxB]|(simp only [kdB];split)|(simp only [kvB];split))
theorem ZmL (J : Al G T g) (F : Fm) {md : Int} (hm : 1≤md∧md≤5) {a b c d : Nat} (ha : a < 2 * F.sg) (hb : b < 2 * F.sg) (hc : c < 2 * F.sg) (hd : d < 2 * F.sg) :
  run G T 262 [.int .u8 F.u,.int .u8 md,zA a b,zA c d] = some (.tup [zrA (addW F md a c) (addW F md b d),.int .i64 0]):=by
 rw [Zac G T J.J.ZmL]
 have o1:=Zrj J F hm (Zkf ha) (Zkf hb) (Zkf hc) (Zkf hd)
 rw [if_pos ⟨⟨ha,hb⟩,hc,hd⟩] at o1
 have p1:=ZnH J o1 (ZkY J F hm ha hc) (ZkY J F hm hb hd)
 generalize addW F md a c = S1 at *
 generalize addW F md b d = S2 at *
 simp only [zA,zrA] at *
 repeat' (first|simp (maxSteps:=9^7) only [seval,exC,ZhC,p1]|simp (maxSteps:=9^7) (disch:=first|with_reducible assumption|omega) only [dxB]|(simp only [kdB];split)|(simp only [kvB];split))
end Go.Cv
namespace Go.Cv
variable {G : Nat→Option (List AV)} {T : Tbl} {g : Nat}
section
variable (a b c d e f : AV) (k : IntKind)
end
end Go.Cv
namespace Go.Cv
variable {G : Nat→Option (List AV)} {T : Tbl} {g : Nat}
theorem ZmZ (F : Fm) : F.nan < 2 * F.sg:=by cases F <;> decide
theorem ZzZ (F : Fm) {w : Nat} (h : w < 2 * F.sg) : F.min w < 2 * F.sg:=by
 unfold Fm.min; split
 ·exact ZmZ F
 ·exact (Zur h).1
theorem Ztx (F : Fm) {s : Nat} (hs : s < 2 * F.sg) (p : Int × Bool) : sideW F s p < 2 * F.sg:=by
 have z0 : (0 : Nat) < 2 * F.sg:=by cases F <;> decide
 unfold sideW
 split
 ·split
  ·exact ZzZ F hs
  ·exact ZzZ F z0
 ·split
  ·exact hs
  ·exact z0
theorem ZEe (F : Fm) (md : Int) (a b c d : Nat) : (smW F md a b c d).1.1 < 2 * F.sg∧(smW F md a b c d).2.1 < 2 * F.sg:=by
 have z0 : (0 : Nat) < 2 * F.sg:=by cases F <;> decide
 have zn : F.nan < 2 * F.sg:=by cases F <;> decide
 unfold smW
 repeat' split
 ·exact ⟨z0,z0⟩
 ·exact ⟨zn,zn⟩
 ·exact ⟨zn,zn⟩
 ·exact ⟨Ztx F (ZlN F false) _,Ztx F (ZlN F false) _⟩
def pl (F : Fm) (w : Nat) : Int:=if F.ng w then -((w % F.sg : Nat) : Int) else ((w % F.sg : Nat) : Int)
theorem ZFs (F : Fm) {w : Nat} (hw : w < 2 * F.sg) (h5 : F.cls w≠5) : w % F.sg≤F.i0∧(F.fin w↔w % F.sg < F.i0):=by
 obtain ⟨h1,h2,h3,h4⟩:=ZlF hw
 have hp:=Nat.two_pow_pos F.fr
 have e1 : F.i0 = 2 ^ F.fr * F.most:=Nat.mul_comm ..
 have hlt : F.ex w < F.most→2 ^ F.fr * F.ex w + F.fc w < 2 ^ F.fr * F.most:=fun h => by
  have:=Nat.mul_le_mul_left (2 ^ F.fr) (show F.ex w + 1≤F.most from h)
  rw [Nat.mul_add] at this; omega
 unfold Fm.fin
 rw [h2,e1]
 by_cases h : F.ex w < F.most
 ·exact ⟨Nat.le_of_lt (hlt h),fun _ => hlt h,fun _ => h⟩
 ·have he : F.ex w = F.most:=by omega
  have hm0 : F.most≠0:=by cases F <;> decide
  have hf : F.fc w = 0:=by
   by_cases q : F.fc w = 0
   ·exact q
   ·exfalso; apply h5; unfold Fm.cls; rw [if_neg (by omega),if_neg h,if_neg q]
  rw [he,hf]
  exact ⟨Nat.le_refl _,fun q => absurd q (Nat.lt_irrefl _),fun q => absurd q (Nat.lt_irrefl _)⟩
theorem ZFg (F : Fm) {w : Nat} (hw : w < 2 * F.sg) : w = w % F.sg + F.sgn (F.ng w):=(ZlF hw).1
def Near (F : Fm) (a b : Nat) : Prop:=a = b∨(F.cls a = 1∧F.cls b = 1)
def Wd (F : Fm) (w : Nat) : Prop:=w < 2 * F.sg∧F.cls w≠5
theorem Zka (F : Fm) (neg : Bool) {s : Nat} (h : s≤F.i0) : pl F (s + F.sgn neg) = plz F neg s∧Wd F (s + F.sgn neg):=ZrA F neg h
theorem Zqq (F : Fm) {md : Int} (hm : 1≤md∧md≤5) {X b : Dy} (hb : b.m≠0) (s5 s s4 : Bool) :
  (Wd F (ptQ F 5 X s5 b).1∧Wd F (ptQ F md X s b).1∧Wd F (ptQ F 4 X s4 b).1)∧(pl F (ptQ F 5 X s5 b).1≤pl F (ptQ F md X s b).1∧pl F (ptQ F md X s b).1≤pl F (ptQ F 4 X s4 b).1)∧pl F (ptQ F 4 X s4 b).1≤pl F (ptQ F 5 X s5 b).1 + 1:=by
 unfold ptQ
 by_cases h0 : X.m = 0
 ·simp only [if_pos h0]
  have z : ∀ n,pl F (F.sgn n) = 0∧Wd F (F.sgn n):=fun n => by
   have h:=Zka F n (s:=0) (Nat.zero_le _)
   rw [Nat.zero_add] at h
   refine ⟨h.1.trans ?_,h.2⟩
   unfold plz; cases n <;> rfl
  rw [(z s5).1,(z s).1,(z s4).1]
  exact ⟨⟨(z s5).2,(z s).2,(z s4).2⟩,⟨Int.le_refl _,Int.le_refl _⟩,by decide⟩
 ·simp only [if_neg h0]
  obtain ⟨s0,o,h,m,hs⟩:=Zyz F h0 hb
  have k5:=ZlD F (md:=5) (by decide) (X.n != b.n) o h m s0
  have k4:=ZlD F (md:=4) (by decide) (X.n != b.n) o h m s0
  have k:=ZlD F hm (X.n != b.n) o h m s0
  simp only at k5 k4 k
  rw [hs md hm,hs 5 (by decide),hs 4 (by decide),(Zka F _ k5.2.2.2).1,(Zka F _ k4.2.2.2).1,(Zka F _ k.2.2.2).1]
  exact ⟨⟨(Zka F _ k5.2.2.2).2,(Zka F _ k.2.2.2).2,(Zka F _ k4.2.2.2).2⟩,⟨k.1,k.2.1⟩,k.2.2.1⟩
theorem ZpZ {d : Dy} {L : Int} (hz : Nz d) (hl : LoE d L) (h : iv d L = 0) : d.m = 0:=by
 have:=ZwA hz (b:=⟨false,0,0⟩) ⟨fun _ => rfl,fun h => absurd rfl h⟩ hl (Or.inl rfl) (by rw [h,Zah rfl])
 rw [this]
theorem Zqv (F : Fm) (md : Int) {X d b : Dy} (nX : Nz X) (nd : Nz d) (nb : Nz b) (d0 : d.m≠0) (b0 : b.m≠0) {K L : Int} (lX : LoE X (K + L)) (ld : LoE d K) (lb : LoE b L) (h : iv X (K + L) = iv d K * iv b L) : quoW F md X b = rndW F md d:=by
 obtain ⟨m1,m2⟩:=Zbb ld lb
 have e : X = mulD d b:=ZwA nX (ZbB d b) lX m2 (by rw [h,m1])
 rw [e]
 obtain ⟨n,m,x⟩:=d
 obtain ⟨n',m',x'⟩:=b
 exact Zyy F md (nd.2 d0) (nb.2 b0)
theorem ZyX (F : Fm) (md : Int) {w : Nat} (hw : w < 2 * F.sg) (hf : F.fin w) (h0 : (F.vl w).m≠0) : rndW F md (F.vl w) = (w,0):=by
 have h5 : F.cls w≠5:=by have:=Zat.1 hf; omega
 have h1:=(ZFs F hw h5).2.1 hf
 have e:=ZFg F hw
 have n0 : w % F.sg≠0:=fun q => by
  rw [q,Nat.zero_add] at e
  apply h0
  rw [e,(ZaH F _).2.2.2]
 have:=(Znu F md (F.ng w) h1 n0).1
 rw [← e] at this
 rw [ZbA hf]; exact this
theorem Zyt {d : Dy} (h : Nz d) : mulD d oneD = d:=by
 by_cases h0 : d.m = 0
 ·rw [Zid (Or.inl h0),h.1 h0]
 ·unfold mulD oneD
  obtain ⟨n,m,e⟩:=d
  simp only [Bool.bne_false,Nat.mul_one,Int.add_zero]
  exact ZoP (h.2 h0)
theorem ZAW : LoE oneD 0:=Or.inr (Int.le_refl _)
theorem ZDj : iv oneD 0 = 1:=rfl
theorem ZwR (F : Fm) {md : Int} {a b : Dy} (na : Nz a) (h0 : a.m≠0) (h1 : b.m≠0) (hf : (quoW F md a b).2 = 0) : F.fin (quoW F md a b).1∧(quoW F md a b).1 < 2 * F.sg∧a = mulD (F.vl (quoW F md a b).1) b:=by
 obtain ⟨K,N,kk,u,f1,f2,f3,f4,_,_,_,f5⟩:=Zyx F h0 h1 (Or.inl hf)
 have f5:=f5 hf
 refine ⟨f1,f2,?_⟩
 rw [ZbA f1,f3]
 have lb : LoE b b.e:=Or.inr (Int.le_refl _)
 have lv : LoE (mkD (a.n != b.n) K u) (u - kk):=ZfA (by omega)
 obtain ⟨m1,m2⟩:=Zbb lv lb
 have la : LoE a (u - kk + b.e):=Or.inr (by omega)
 refine ZwA na (ZbB _ _) la m2 ?_
 rw [m1,ZlT (by omega)]
 unfold iv
 rw [show (a.e - (u - kk + b.e)).toNat = N by omega,show (u - (u - (kk : Int))).toNat = kk by omega,show (b.e - b.e).toNat = 0 by omega,Nat.pow_zero,Nat.mul_one,f5]
 have e : K * b.m * 2 ^ kk = K * 2 ^ kk * b.m:=by rw [Nat.mul_right_comm]
 rw [e,Int.natCast_mul (K * 2 ^ kk)]
 generalize ((K * 2 ^ kk : Nat) : Int) = x
 generalize (b.m : Int) = y
 cases a.n <;> cases b.n <;> simp [Int.neg_mul,Int.mul_neg]
end Go.Cv
