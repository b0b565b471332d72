/-
 A part of the proof of the statements of this seat (texts that the law's own text leans on): no condition.
-/
import Derived.Test.YtddmoldiopnifaaGreatDoorM16
set_option linter.unusedVariables false
set_option linter.unusedSimpArgs false
namespace Go.Cv
def Fm.lo (F : Fm) : Nat:=F.fr + F.wlo - 1
def Fm.hi (F : Fm) : Nat:=F.fr + F.whi
theorem Ziq {F : Fm} {w : Nat} (hw : w < 2 * F.sg) (h : inW F w) : Fb F w F.hi∧2 ^ F.lo≤(F.X w).natAbs∧LoE (F.vl w) (F.wlo - 1 + F.low):=by
 have hF:=ZaH F
 have hm : F.whi < F.most∧1≤F.wlo∧F.wlo≤F.whi:=by cases F <;> decide
 obtain ⟨h1,h2⟩:=h
 have hf : F.fin w:=by unfold Fm.fin; omega
 have hfc : F.fc w < 2 ^ F.fr:=by unfold Fm.fc; exact Nat.mod_lt _ (Nat.two_pow_pos _)
 have hv : F.vl w = mkD (F.ng w) (2 ^ F.fr + F.fc w) (F.ex w - 1 + F.low):=by
  rw [Zbu hf]; unfold Fm.val; rw [if_neg (by omega)]
 have hx : F.X w = (if F.ng w then -1 else 1) * (((2 ^ F.fr + F.fc w) * 2 ^ (F.ex w - 1) : Nat) : Int):=by
  unfold Fm.X
  rw [hv,ZhN (by omega),show ((F.ex w : Int) - 1 + F.low - F.low).toNat = F.ex w - 1 by omega]
 have ha : (F.X w).natAbs = (2 ^ F.fr + F.fc w) * 2 ^ (F.ex w - 1):=by
  rw [hx,Int.natAbs_mul,Int.natAbs_natCast]
  cases F.ng w <;> simp
 refine ⟨⟨hw,hf,?_⟩,?_,?_⟩
 ·rw [ha]
  have e1 : (2 ^ F.fr + F.fc w) * 2 ^ (F.ex w - 1) < 2 ^ (F.fr + 1) * 2 ^ (F.ex w - 1):=Nat.mul_lt_mul_of_pos_right (by rw [Nat.pow_succ]; omega) (Nat.two_pow_pos _)
  rw [← Nat.pow_add] at e1
  exact Nat.lt_of_lt_of_le e1 (Nat.pow_le_pow_right (by decide) (by unfold Fm.hi; omega))
 ·rw [ha]
  have e1 : 2 ^ F.fr * 2 ^ (F.ex w - 1)≤(2 ^ F.fr + F.fc w) * 2 ^ (F.ex w - 1):=Nat.mul_le_mul_right _ (Nat.le_add_right _ _)
  rw [← Nat.pow_add] at e1
  exact Nat.le_trans (Nat.pow_le_pow_right (by decide) (by unfold Fm.lo; omega)) e1
 ·rw [hv]; exact ZcY (by omega)
theorem ZEo (k : Nat) {x : Int} : P2 k ∣ x↔2 ^ k ∣ x.natAbs:=by
 unfold P2
 have h : ((2 ^ k : Nat) : Int).natAbs = 2 ^ k:=Int.natAbs_natCast _
 constructor
 ·intro q; have:=Int.natAbs_dvd_natAbs.2 q; rwa [h] at this
 ·intro q; exact Int.natAbs_dvd_natAbs.1 (by rw [h]; exact q)
theorem ZET {k : Nat} {x : Int} (h : P2 k ∣ x) (h0 : x≠0) : 2 ^ k≤x.natAbs:=Nat.le_of_dvd (by omega) ((ZEo k).1 h)
theorem Rn.dvd {p i : Nat} {n r : Int} (h : Rn p n r) (hi : P2 i ∣ n) : P2 i ∣ r:=by
 by_cases hk : bl n - p≤i
 ·rw [h.exact hi hk]; exact hi
 ·exact Int.dvd_trans (ZnC (by omega)) h.2.1
theorem ZCS {k : Nat} {n : Int} (h : 2 ^ k≤n.natAbs) : k + 1≤bl n:=by
 have : k < blen n.natAbs:=ZaP.2 h
 exact this
theorem ZEp {U : Nat} {n r : Int} (hU : 2≤U) (h : Rl U n r) : n.natAbs≤2 * r.natAbs:=by
 unfold Rl at h
 have : 2 * (n - r).natAbs≤U * (n - r).natAbs:=Nat.mul_le_mul_right _ hU
 omega
def Fm.pl (F : Fm) : Nat:=2 * F.lo - F.sh
def Fm.pj (F : Fm) : Nat:=F.pl - F.fr
def Fm.ph (F : Fm) : Nat:=2 * F.hi - F.sh + 1
theorem ZoR (F : Fm) : F.sh≤2 * F.lo∧F.low≤(F.wlo - 1 + F.low) + (F.wlo - 1 + F.low)∧F.low + F.low + (2 * F.hi : Nat) < F.wide∧F.fr≤F.pl∧F.low + (F.ph + 5 : Nat) < F.wide∧F.low + F.fr + 1≤(F.pj : Int) + 1 - (F.ph + 2 : Nat)∧((F.ph + 2 : Nat) : Int) - ((F.pl - 2 : Nat) : Int) < F.wide∧(F.sh : Int) = -F.low∧F.pl≤F.ph∧2≤F.pl:=by cases F <;> decide
theorem Zcf {F : Fm} {a b : Nat} (ha : a < 2 * F.sg) (hb : b < 2 * F.sg) (wa : inW F a) (wb : inW F b) :
  Fb F (mulW2 F 1 a b).1 F.ph∧Rl (F1 F) (F.X a * F.X b) (F.X (mulW2 F 1 a b).1 * (2 ^ F.sh : Nat))∧2 ^ F.pl≤2 * (F.X (mulW2 F 1 a b).1).natAbs∧P2 F.pj ∣ F.X (mulW2 F 1 a b).1:=by
 obtain ⟨fa,la,ea⟩:=Ziq ha wa
 obtain ⟨fb,lb,eb⟩:=Ziq hb wb
 obtain ⟨n1,n2,n3,n4,_⟩:=ZoR F
 obtain ⟨h1,h2⟩:=ZFO F fa fb ea eb n2 n3
 have hlo : 2 ^ F.pl * 2 ^ F.sh≤(F.X a * F.X b).natAbs:=by
  rw [← Nat.pow_add,Int.natAbs_mul,show F.pl + F.sh = F.lo + F.lo by unfold Fm.pl; omega,Nat.pow_add]
  exact Nat.mul_le_mul la lb
 have h3:=ZEp (Nat.le_trans (by decide) (Zse F)) h2
 refine ⟨h1,h2,?_,?_⟩
 ·rw [Int.natAbs_mul (F.X (mulW2 F 1 a b).1),Int.natAbs_natCast,← Nat.mul_assoc] at h3
  exact Nat.le_of_mul_le_mul_right (Nat.le_trans hlo h3) (Nat.two_pow_pos _)
 ·-- its last place
  obtain ⟨i0,l0⟩:=ZbU (Zbe fa.fin) (Zbe fb.fin)
  have l1 : LoE (mulD (F.vl a) (F.vl b)) F.low:=(ZbU ea eb).2.mono n2
  have hF:=ZaH F
  have hsh : (F.sh : Int) = -F.low:=by unfold Fm.sh; omega
  have hsc:=Zjf (L':=F.low + F.low) l1 (by omega)
  rw [i0,show (F.low - (F.low + F.low)).toNat = F.sh by omega] at hsc
  change F.X a * F.X b = _ at hsc
  have hlt : (iv (mulD (F.vl a) (F.vl b)) F.low).natAbs < 2 ^ (2 * F.hi - F.sh):=by
   have hm : (F.X a * F.X b).natAbs < 2 ^ (2 * F.hi):=by
    rw [Int.natAbs_mul,show 2 * F.hi = F.hi + F.hi by omega,Nat.pow_add]
    exact Nat.mul_lt_mul'' fa.hi fb.hi
   rw [hsc,Int.natAbs_mul,Int.natAbs_natCast,show 2 * F.hi = (2 * F.hi - F.sh) + F.sh by
                                                have : F.lo≤F.hi:=by cases F <;> decide
                                                omega,Nat.pow_add] at hm
   exact Nat.lt_of_mul_lt_mul_right hm
  have ne : ¬ (F.cls a = 1∨F.cls b = 1):=by
   intro q
   have : F.X a * F.X b = 0:=by
    rcases q with q | q
    ·rw [Zjy ha q,Int.zero_mul]
    ·rw [Zjy hb q,Int.mul_zero]
   rw [this] at hlo
   have:=Nat.mul_pos (Nat.two_pow_pos F.pl) (Nat.two_pow_pos F.sh)
   simp only [Int.natAbs_zero] at hlo
   omega
  have e : mulW2 F 1 a b = sumW F 1 (mulD (F.vl a) (F.vl b)):=by unfold mulW2; rw [Znk F 1 (Zap.1 fa.fin) (Zap.1 fb.fin),if_neg ne]
  rw [e]
  obtain ⟨_,_,r3⟩:=Zvi F l1 (ZkP F l1 hlt (by have:=n3; omega))
  have hb:=ZCS (k:=F.pl) (n:=iv (mulD (F.vl a) (F.vl b)) F.low) (by
   rw [hsc,Int.natAbs_mul,Int.natAbs_natCast] at hlo
   exact Nat.le_of_mul_le_mul_right hlo (Nat.two_pow_pos _))
  exact Int.dvd_trans (ZnC (by unfold Fm.pj; omega)) r3.2.1
theorem ZAj {neg : Bool} (Q : Nat) (s : Bool) {k : Nat} (hk : 0 < k) : 2 * ((rdN 1 neg Q s k).1 * 2 ^ k)≤2 * Q + 2 ^ k∧2 * Q≤2 * ((rdN 1 neg Q s k).1 * 2 ^ k) + 2 ^ k:=by
 obtain ⟨q1,q2,q3⟩:=Zif Q hk
 have hd:=Nat.div_add_mod Q (2 ^ k)
 have hK : (rdN 1 neg Q s k).1 = Q / 2 ^ k + (halfN Q k && (moreN Q s k || decide (Q / 2 ^ k % 2 = 1))).toNat:=rfl
 have hm : moreN Q s k = (s || decide (Q % 2 ^ (k - 1)≠0)):=rfl
 rw [hK,Nat.add_mul,Nat.mul_comm (Q / 2 ^ k)]
 generalize 2 ^ k * (Q / 2 ^ k) = A at *
 generalize 2 ^ k = B at *
 generalize 2 ^ (k - 1) = C at *
 cases h : halfN Q k
 ·rw [h] at q1
  simp only [Bool.false_and,Bool.toNat_false,Nat.zero_mul,Nat.add_zero]
  simp only [Bool.false_eq_true,if_false] at q1
  omega
 ·rw [h] at q1
  simp only [if_true] at q1
  rw [hm]
  by_cases g : ((s || decide (Q % C≠0)) || decide (Q / B % 2 = 1)) = true
  ·rw [g]; simp only [Bool.and_self,Bool.toNat_true,Nat.one_mul]; omega
  ·rw [Bool.not_eq_true] at g
   rw [g]
   simp only [Bool.or_eq_false_iff,decide_eq_false_iff_not,ne_eq,Decidable.not_not] at g
   simp only [Bool.and_false,Bool.toNat_false,Nat.zero_mul,Nat.add_zero]
   omega
theorem ZGm (F : Fm) (neg : Bool) {Q : Nat} (lost : Bool) (E : Int) (hq : F.fr + 2≤blen Q) (h1 : F.low + F.fr + 1≤E + blen Q) (h2 : E + blen Q < F.wide) :
  (sW F 1 neg Q lost E).1 < 2 * F.sg∧F.fin (sW F 1 neg Q lost E).1∧∀ L,L≤F.low→L≤E→LoE (F.vl (sW F 1 neg Q lost E).1) L∧∃ m : Nat,iv (F.vl (sW F 1 neg Q lost E).1) L = (if neg then -1 else 1) * (m : Int) ∧
   F1 F * m≤F1 F * (Q * 2 ^ (E - L).toNat) + Q * 2 ^ (E - L).toNat∧F1 F * (Q * 2 ^ (E - L).toNat)≤F1 F * m + Q * 2 ^ (E - L).toNat:=by
 have hF:=ZaH F
 have hi:=Zdb F
 unfold sW
 obtain ⟨u,hu⟩ : ∃ u,u = F.eOf (E + blen Q):=⟨_,rfl⟩
 have hue : u = max (E + blen Q - F.fr - 1) F.low:=hu
 rw [← hu]
 obtain ⟨kk,hkk⟩ : ∃ kk,kk = (u - E).toNat:=⟨_,rfl⟩
 rw [← hkk]
 have k0 : 0 < kk:=by omega
 have hkk2 : kk + F.fr + 1 = blen Q:=by omega
 have hK : (rdN 1 neg Q lost kk).1 = Q / 2 ^ kk + (upB 1 neg (decide (Q / 2 ^ kk % 2 = 1)) (halfN Q kk) (moreN Q lost kk)).toNat:=rfl
 have hbt : ∀ b : Bool,b.toNat≤1:=fun b => by cases b <;> decide
 have hbd : (rdN 1 neg Q lost kk).1≤2 ^ (F.fr + 1):=by
  rw [hK]
  have hb1 : blen (Q / 2 ^ kk)≤F.fr + 1:=by rw [Zam]; omega
  have:=Zae.1 hb1
  have:=hbt (upB 1 neg (decide (Q / 2 ^ kk % 2 = 1)) (halfN Q kk) (moreN Q lost kk))
  omega
 have hlo2 : u = F.low∨2 ^ F.fr≤(rdN 1 neg Q lost kk).1:=by
  right
  have : 2 ^ F.fr≤Q / 2 ^ kk:=ZaP.1 (by rw [Zam]; omega)
  rw [hK]; omega
 have hbig:=Zlf F (n:=(rdN 1 neg Q lost kk).1) (u:=u) hbd (by omega) hlo2
 have hbl : blen (rdN 1 neg Q lost kk).1≤F.fr + 2:=Zae.2 (by rw [Nat.pow_succ 2 (F.fr + 1)]; have:=Nat.two_pow_pos (F.fr + 1); omega)
 have hs : F.enc (rdN 1 neg Q lost kk).1 u < F.i0:=by
  rcases Nat.lt_or_ge (F.enc (rdN 1 neg Q lost kk).1 u) F.i0 with q | q
  ·exact q
  ·have:=hbig.2 q; omega
 have hov : ¬ F.wide < blen (rdN 1 neg Q lost kk).1 + u:=by omega
 have hmag:=ZlM F hbd (by omega) hlo2
 obtain ⟨r1,r2⟩:=ZAj (neg:=neg) Q lost k0
 unfold wordOf
 rw [if_neg hov]
 generalize (rdN 1 neg Q lost kk).1 = K at *
 refine ⟨by unfold Fm.sgn; simp only; split <;> omega,ZbP neg hs,fun L hL1 hL2 => ?_⟩
 obtain ⟨v1,v2⟩:=ZlK (F:=F) neg hs hL1
 simp only
 rw [Zbu (ZbP neg hs)]
 refine ⟨v2,K * 2 ^ kk * 2 ^ (E - L).toNat,?_,?_⟩
 ·rw [v1,hmag,units (K:=K) (u:=u) (E:=E) (kk:=kk) (by omega) hL2 (by omega) hL1]
 ·have hQ : 2 ^ (kk + F.fr)≤Q:=ZaP.1 (by omega)
  have e1 : F1 F * 2 ^ kk = 2 * 2 ^ (kk + F.fr):=by
   unfold F1
   rw [← Nat.pow_add,show F.fr + 1 + kk = (kk + F.fr) + 1 by omega,Nat.pow_succ]; omega
  have a1 : F1 F * (2 * (K * 2 ^ kk))≤F1 F * (2 * Q + 2 ^ kk):=Nat.mul_le_mul_left _ r1
  have a2 : F1 F * (2 * Q)≤F1 F * (2 * (K * 2 ^ kk) + 2 ^ kk):=Nat.mul_le_mul_left _ r2
  rw [Nat.mul_add,e1] at a1 a2
  have b1 : F1 F * (K * 2 ^ kk)≤F1 F * Q + Q:=by
   rw [Nat.mul_left_comm,Nat.mul_left_comm (F1 F) 2 Q] at a1; omega
  have b2 : F1 F * Q≤F1 F * (K * 2 ^ kk) + Q:=by
   rw [Nat.mul_left_comm,Nat.mul_left_comm (F1 F) 2 (K * 2 ^ kk)] at a2; omega
  have c1:=Nat.mul_le_mul_right (2 ^ (E - L).toNat) b1
  have c2:=Nat.mul_le_mul_right (2 ^ (E - L).toNat) b2
  rw [Nat.add_mul,Nat.mul_assoc (F1 F),Nat.mul_assoc (F1 F)] at c1 c2
  exact ⟨c1,c2⟩
end Go.Cv
namespace Go.Cv
theorem ZGE {F : Fm} {w : Nat} (hf : F.fin w) (h0 : (F.vl w).m≠0) : (F.vl w).e + blen (F.vl w).m = F.low + bl (F.X w):=by
 unfold Fm.X
 rw [ZCQ,Zaq h0]
 have:=Zzz (Zbe hf) h0
 omega
theorem X_m0 {F : Fm} {w : Nat} (h0 : F.X w≠0) : (F.vl w).m≠0:=fun q => h0 (ZaO q _)
theorem ZCI {F : Fm} {w : Nat} : F.X w = (if (F.vl w).n then -1 else 1) * (((F.vl w).m * 2 ^ ((F.vl w).e - F.low).toNat : Nat) : Int):=rfl
theorem ZyE (n : Bool) (x : Int) : ((if n then -1 else 1) * x).natAbs = x.natAbs:=by cases n <;> simp
theorem ZGo (p q : Bool) (x y : Int) : (if (p != q) then (-1 : Int) else 1) * x * ((if q then -1 else 1) * y) = (if p then -1 else 1) * (x * y):=by
 cases p <;> cases q <;> simp [Int.neg_mul,Int.mul_neg]
theorem ZGf {A b N Q : Nat} (ha : A≠0) (hb : b≠0) (hQ : Q = A * 2 ^ N / b) (h0 : Q≠0) : blen A + N≤blen Q + blen b∧blen Q + blen b≤blen A + N + 1:=by
 have hdm:=Nat.div_add_mod (A * 2 ^ N) b
 have hlt:=Nat.mod_lt (A * 2 ^ N) (Nat.pos_of_ne_zero hb)
 rw [← hQ] at hdm
 have e:=Zaq ha N
 have q1:=ZbK Q
 have q2:=ZbK b
 have q3 : 2 ^ (blen Q - 1)≤Q:=ZaP.1 (by have:=ZcG h0; omega)
 have q4 : 2 ^ (blen b - 1)≤b:=ZaP.1 (by have:=ZcG hb; omega)
 have p1:=ZcG h0
 have p2:=ZcG hb
 refine ⟨?_,?_⟩
 ·rw [← e]
  refine Zae.2 ?_
  have h1 : (Q + 1) * b≤2 ^ blen Q * 2 ^ blen b:=Nat.mul_le_mul q1 (Nat.le_of_lt q2)
  rw [← Nat.pow_add,Nat.add_mul,Nat.one_mul,Nat.mul_comm Q b] at h1
  omega
 ·have h1 : 2 ^ (blen Q - 1) * 2 ^ (blen b - 1)≤Q * b:=Nat.mul_le_mul q3 q4
  rw [← Nat.pow_add,Nat.mul_comm Q b] at h1
  have h2 : blen Q - 1 + (blen b - 1) < blen (A * 2 ^ N):=ZaP.2 (by omega)
  omega
theorem Zzx {U m b W A Q : Nat} (h1 : U * m≤U * (Q * W) + Q * W) (h2 : U * (Q * W)≤U * m + Q * W) (q1 : Q * b≤A) (q2 : A≤Q * b + b) (hQ : 1024 * U≤Q) :
  1024 * U * (m * b)≤1024 * U * (A * W) + 1025 * (A * W)∧1024 * U * (A * W)≤1024 * U * (m * b) + 1025 * (A * W):=by
 have a1:=Nat.mul_le_mul_right b h1
 have a2:=Nat.mul_le_mul_right b h2
 have c1 : Q * b * W≤A * W:=Nat.mul_le_mul_right W q1
 have c2 : A * W≤(Q * b + b) * W:=Nat.mul_le_mul_right W q2
 have c3 : 1024 * U * (b * W)≤Q * (b * W):=Nat.mul_le_mul_right _ hQ
 have c4 : U * (Q * b * W)≤U * (A * W):=Nat.mul_le_mul_left U c1
 have c5 : U * (A * W)≤U * ((Q * b + b) * W):=Nat.mul_le_mul_left U c2
 have e1 : U * m * b = U * (m * b):=Nat.mul_assoc ..
 have e2 : (U * (Q * W) + Q * W) * b = U * (Q * b * W) + Q * b * W:=by
  rw [Nat.add_mul,Nat.mul_assoc U,Nat.mul_right_comm Q W b]
 have e3 : U * (Q * W) * b = U * (Q * b * W):=by rw [Nat.mul_assoc U,Nat.mul_right_comm Q W b]
 have e4 : (U * m + Q * W) * b = U * (m * b) + Q * b * W:=by rw [Nat.add_mul,Nat.mul_assoc U,Nat.mul_right_comm Q W b]
 have e5 : U * ((Q * b + b) * W) = U * (Q * b * W) + U * (b * W):=by rw [Nat.add_mul,Nat.mul_add]
 have e6 : Q * (b * W) = Q * b * W:=(Nat.mul_assoc ..).symm
 rw [e1,e2] at a1
 rw [e3,e4] at a2
 rw [e5] at c5
 rw [e6,Nat.mul_assoc] at c3
 rw [Nat.mul_assoc,Nat.mul_assoc]
 omega
theorem ZEO (F : Fm) {a b ka kb ja jb : Nat} (ha : Fb F a ka) (hb : Fb F b kb) (la : 2 ^ ja≤(F.X a).natAbs) (lb : 2 ^ jb≤(F.X b).natAbs) (h1 : F.low + F.fr + 1≤(ja : Int) + 1 - kb) (h2 : (ka : Int) - jb < F.wide) :
  (divW2 F 1 a b).1 < 2 * F.sg∧F.fin (divW2 F 1 a b).1∧1024 * F1 F * (F.X (divW2 F 1 a b).1 * F.X b - F.X a * (2 ^ F.sh : Nat)).natAbs≤1025 * (F.X a * (2 ^ F.sh : Nat)).natAbs:=by
 have hF:=ZaH F
 have a0 : F.X a≠0:=fun q => by rw [q] at la; have:=Nat.two_pow_pos ja; simp at la
 have b0 : F.X b≠0:=fun q => by rw [q] at lb; have:=Nat.two_pow_pos jb; simp at lb
 have am:=X_m0 a0
 have bm:=X_m0 b0
 have ta:=ZGE ha.fin am
 have tb:=ZGE hb.fin bm
 have ae:=Zzz (Zbe ha.fin) am
 have be:=Zzz (Zbe hb.fin) bm
 have ua:=ZCT ha.hi
 have ub:=ZCT hb.hi
 have va:=ZCS la
 have vb:=ZCS lb
 have ca : F.cls a≠1:=fun q => a0 (Zjy ha.lt q)
 have cb : F.cls b≠1:=fun q => b0 (Zjy hb.lt q)
 have fa:=Zap.1 ha.fin
 have fb:=Zap.1 hb.fin
 have e : divW2 F 1 a b = quoW F 1 (F.vl a) (F.vl b):=by
  unfold divW2 divP
  rw [if_neg (by omega),if_neg (by omega),if_neg (by omega),if_neg (by omega),if_neg (by omega)]
 rw [e]
 have hqb:=Zjj (k:=64) am bm
 unfold quoW
 obtain ⟨N,hN⟩ : ∃ N,N = quoN 64 (F.vl a).m (F.vl b).m:=⟨_,rfl⟩
 rw [← hN] at hqb ⊢
 obtain ⟨Q,hQ⟩ : ∃ Q,Q = (F.vl a).m * 2 ^ N / (F.vl b).m:=⟨_,rfl⟩
 rw [← hQ] at hqb ⊢
 have hQ0 : Q≠0:=fun q => by rw [q] at hqb; exact absurd hqb (by decide)
 obtain ⟨g1,g2⟩:=ZGf am bm hQ hQ0
 have hdm:=Nat.div_add_mod ((F.vl a).m * 2 ^ N) (F.vl b).m
 have hlt:=Nat.mod_lt ((F.vl a).m * 2 ^ N) (Nat.pos_of_ne_zero bm)
 rw [← hQ] at hdm
 obtain ⟨s1,s2,s3⟩:=ZGm F ((F.vl a).n != (F.vl b).n) (Q:=Q) (!decide ((F.vl a).m * 2 ^ N % (F.vl b).m = 0)) ((F.vl a).e - (F.vl b).e - (N : Nat)) (by omega) (by omega) (by omega)
 generalize (sW F 1 ((F.vl a).n != (F.vl b).n) Q (!decide ((F.vl a).m * 2 ^ N % (F.vl b).m = 0)) ((F.vl a).e - (F.vl b).e - (N : Nat))).1 = w at *
 refine ⟨s1,s2,?_⟩
 obtain ⟨E,hE⟩ : ∃ E,E = (F.vl a).e - (F.vl b).e - (N : Int):=⟨_,rfl⟩
 rw [← hE] at s3
 obtain ⟨L,hL1,hL2,hL3⟩ : ∃ L,L≤F.low∧L≤E∧L≤0:=⟨min F.low E,by omega,by omega,by omega⟩
 obtain ⟨_,m,i1,i2,i3⟩:=s3 L hL1 hL2
 have hsc:=Zjf (L':=L) (Zbe s2) hL1
 have hm : 1024 * F1 F≤Q:=by
  have q : 2 ^ 64≤Q:=ZaP.1 hqb
  have : 1024 * F1 F≤2 ^ 64:=by cases F <;> decide
  omega
 obtain ⟨k1,k2⟩:=Zzx (b:=(F.vl b).m) (A:=(F.vl a).m * 2 ^ N) i2 i3 (by rw [Nat.mul_comm]; omega) (by rw [Nat.mul_comm Q]; omega) hm
 -- over a finer unit
 have hw : F.X w * ((2 ^ (F.low - L).toNat : Nat) : Int) = (if ((F.vl a).n != (F.vl b).n) then -1 else 1) * (m : Int):=by rw [← i1,hsc]; rfl
 have hT:=Nat.two_pow_pos (F.low - L).toNat
 generalize hTe : (2 ^ (F.low - L).toNat : Nat) = Tt at *
 have hV:=Nat.two_pow_pos ((F.vl b).e - F.low).toNat
 have hAe : (F.vl a).m * 2 ^ ((F.vl a).e - F.low).toNat * 2 ^ F.sh * Tt = (F.vl a).m * 2 ^ N * 2 ^ (E - L).toNat * 2 ^ ((F.vl b).e - F.low).toNat:=by
  rw [← hTe,Nat.mul_assoc,Nat.mul_assoc,← Nat.pow_add,← Nat.pow_add,Nat.mul_assoc,Nat.mul_assoc,← Nat.pow_add,← Nat.pow_add]
  congr 2
  have : (F.sh : Int) = -F.low:=by unfold Fm.sh; omega
  omega
 have hA1 : (F.X a * ((2 ^ F.sh : Nat) : Int)) * (Tt : Int) = (if (F.vl a).n then -1 else 1) * (((F.vl a).m * 2 ^ N * 2 ^ (E - L).toNat * 2 ^ ((F.vl b).e - F.low).toNat : Nat) : Int):=by
  rw [← hAe,ZCI,Int.mul_assoc,Int.mul_assoc]
  congr 1
  simp only [Int.natCast_mul,Int.mul_assoc]
 have hB1 : F.X w * F.X b * (Tt : Int) = (if (F.vl a).n then -1 else 1) * ((m * (F.vl b).m * 2 ^ ((F.vl b).e - F.low).toNat : Nat) : Int):=by
  rw [Int.mul_right_comm,hw,ZCI]
  rw [ZGo]
  congr 1
  simp only [Int.natCast_mul,Int.mul_assoc]
 have hfin : 1024 * F1 F * ((F.X w * F.X b - F.X a * ((2 ^ F.sh : Nat) : Int)).natAbs * Tt)≤1025 * ((F.X a * ((2 ^ F.sh : Nat) : Int)).natAbs * Tt):=by
  have n1 : (F.X w * F.X b - F.X a * ((2 ^ F.sh : Nat) : Int)).natAbs * Tt = ((F.X w * F.X b - F.X a * ((2 ^ F.sh : Nat) : Int)) * (Tt : Int)).natAbs:=by rw [Int.natAbs_mul _ (Tt : Int),Int.natAbs_natCast Tt]
  have n2 : (F.X a * ((2 ^ F.sh : Nat) : Int)).natAbs * Tt = ((F.X a * ((2 ^ F.sh : Nat) : Int)) * (Tt : Int)).natAbs:=by rw [Int.natAbs_mul _ (Tt : Int),Int.natAbs_natCast Tt]
  rw [n1,n2,Int.sub_mul,hA1,hB1,← Int.mul_sub,ZyE,ZyE,Int.natAbs_natCast]
  have d1:=Nat.mul_le_mul_right (2 ^ ((F.vl b).e - F.low).toNat) k1
  have d2:=Nat.mul_le_mul_right (2 ^ ((F.vl b).e - F.low).toNat) k2
  generalize 2 ^ ((F.vl b).e - F.low).toNat = V at *
  rw [Nat.add_mul,Nat.mul_assoc (1024 * F1 F),Nat.mul_assoc (1024 * F1 F),Nat.mul_assoc 1025] at d1 d2
  generalize m * (F.vl b).m * V = x at *
  generalize (F.vl a).m * 2 ^ N * 2 ^ (E - L).toNat * V = y at *
  have hxy : ((x : Int) - (y : Int)).natAbs = (x - y) + (y - x):=by omega
  rw [hxy,Nat.mul_add,Nat.mul_sub,Nat.mul_sub]
  omega
 rw [← Nat.mul_assoc,← Nat.mul_assoc] at hfin
 exact Nat.le_of_mul_le_mul_right hfin hT
end Go.Cv
namespace Go.Cv
variable {G : Nat→Option (List AV)} {T : Tbl} {g : Nat}
theorem fin5 {F : Fm} {w : Nat} (h : F.fin w) : F.cls w≠5:=(Zjw h).1
theorem Zph {F : Fm} {a b : Nat} (ha : a < 2 * F.sg) (hb : b < 2 * F.sg) (h : F.fin (mulW2 F 1 a b).1) : evFl .mul (fk F) (flA F a) (flA F b) = some (flA F (mulW2 F 1 a b).1):=by
 unfold flA; rw [ZFg,ZFP F ha hb,Zev (fin5 h)]
theorem ZAZ {F : Fm} {a b : Nat} (ha : a < 2 * F.sg) (hb : b < 2 * F.sg) (h : F.fin (addW F 1 a b).1) : evFl .add (fk F) (flA F a) (flA F b) = some (flA F (addW F 1 a b).1):=by
 unfold flA; rw [ZFf,ZEt F ha hb,Zev (fin5 h)]
theorem ZEZ {F : Fm} {a b : Nat} (ha : a < 2 * F.sg) (hb : b < 2 * F.sg) (h : F.fin (subW F 1 a b).1) : evFl .sub (fk F) (flA F a) (flA F b) = some (flA F (subW F 1 a b).1):=by
 unfold flA; rw [ZFi,ZGC F ha hb,Zev (fin5 h)]
theorem ZBa {F : Fm} {a b : Nat} (ha : a < 2 * F.sg) (hb : b < 2 * F.sg) (h : F.fin (divW2 F 1 a b).1) : evFl .quo (fk F) (flA F a) (flA F b) = some (flA F (divW2 F 1 a b).1):=by
 unfold flA; rw [ZFh,ZEP F ha hb,Zev (fin5 h)]
theorem ZvH (hM : HasM g T) (F : Fm) {a b c d p q n r s t r' s' t' x y : Nat}
  (h1 : evFl .mul (fk F) (flA F c) (flA F c) = some (flA F p)) (h2 : evFl .mul (fk F) (flA F d) (flA F d) = some (flA F q)) (h3 : evFl .add (fk F) (flA F p) (flA F q) = some (flA F n))
  (h4 : evFl .mul (fk F) (flA F a) (flA F c) = some (flA F r)) (h5 : evFl .mul (fk F) (flA F b) (flA F d) = some (flA F s)) (h6 : evFl .add (fk F) (flA F r) (flA F s) = some (flA F t))
  (h7 : evFl .mul (fk F) (flA F b) (flA F c) = some (flA F r')) (h8 : evFl .mul (fk F) (flA F a) (flA F d) = some (flA F s')) (h9 : evFl .sub (fk F) (flA F r') (flA F s') = some (flA F t'))
  (h10 : evFl .quo (fk F) (flA F t) (flA F n) = some (flA F x)) (h11 : evFl .quo (fk F) (flA F t') (flA F n) = some (flA F y)) :
  run G T (fsel F 366 367) [flA F a,flA F b,flA F c,flA F d] = some (.tup [flA F x,flA F y]):=by
 cases F
 ·simp only [fsel,flA,fk] at *
  rw [Zab G T hM.fast_div_float32]
  repeat' (first|simp (maxSteps:=9^7) only [seval,exC,Zcr,fcB,h1,h2,h3,h4,h5,h6,h7,h8,h9,h10,h11]|simp (maxSteps:=9^7) (disch:=first|with_reducible assumption|omega) only [dxB]|(simp only [kdB];split)|(simp only [kvB];split))
 ·simp only [fsel,flA,fk] at *
  rw [Zab G T hM.fast_div_float64]
  repeat' (first|simp (maxSteps:=9^7) only [seval,exC,Zcs,fcB,h1,h2,h3,h4,h5,h6,h7,h8,h9,h10,h11]|simp (maxSteps:=9^7) (disch:=first|with_reducible assumption|omega) only [dxB]|(simp only [kdB];split)|(simp only [kvB];split))
def fdN (F : Fm) (c d : Nat) : Nat:=(addW F 1 (mulW2 F 1 c c).1 (mulW2 F 1 d d).1).1
def fdT (F : Fm) (a b c d : Nat) : Nat:=(addW F 1 (mulW2 F 1 a c).1 (mulW2 F 1 b d).1).1
def fdS (F : Fm) (a b c d : Nat) : Nat:=(subW F 1 (mulW2 F 1 b c).1 (mulW2 F 1 a d).1).1
def fdX (F : Fm) (a b c d : Nat) : Nat:=(divW2 F 1 (fdT F a b c d) (fdN F c d)).1
def fdY (F : Fm) (a b c d : Nat) : Nat:=(divW2 F 1 (fdS F a b c d) (fdN F c d)).1
theorem ZqL {F : Fm} {p q : Nat} (hp : Fb F p F.ph) (hq : Fb F q F.ph) (dp : P2 F.pj ∣ F.X p) (dq : P2 F.pj ∣ F.X q) :
  Fb F (addW F 1 p q).1 (F.ph + 2)∧Rl (F1 F) (F.X p + F.X q) (F.X (addW F 1 p q).1)∧P2 F.pj ∣ F.X (addW F 1 p q).1:=by
 obtain ⟨_,_,_,_,n5,_⟩:=ZoR F
 obtain ⟨h1,h2⟩:=ZEs F hp hq (by omega)
 refine ⟨h1,h2,?_⟩
 have hv : (addW F 1 p q).2≠20:=by
  unfold addW
  rw [Ziw F 1 (Zap.1 hp.fin) (Zap.1 hq.fin)]
  by_cases z : F.cls p = 1∧F.cls q = 1∧F.ng p = F.ng q
  ·rw [if_pos z]; exact (by decide : (0 : Nat)≠20)
  ·rw [if_neg z]
   obtain ⟨i1,i2⟩:=Zdn (Zbe hp.fin) (Zbe hq.fin)
   refine ZkP F i2 (k:=F.ph + 1) (by rw [i1]; have:=hp.hi; have:=hq.hi; unfold Fm.X at *; rw [Nat.pow_succ]; omega) (by omega)
 exact (Zwj F hp.lt hq.lt hp.fin hq.fin hv).2.2.dvd (Int.dvd_add dp dq)
theorem ZsW {F : Fm} {p q : Nat} (hp : Fb F p F.ph) (hq : Fb F q F.ph) (dp : P2 F.pj ∣ F.X p) (dq : P2 F.pj ∣ F.X q) :
  Fb F (subW F 1 p q).1 (F.ph + 2)∧Rl (F1 F) (F.X p - F.X q) (F.X (subW F 1 p q).1)∧P2 F.pj ∣ F.X (subW F 1 p q).1:=by
 obtain ⟨_,_,_,_,n5,_⟩:=ZoR F
 obtain ⟨h1,h2⟩:=ZGB F hp hq (by omega)
 refine ⟨h1,h2,?_⟩
 have hv : (subW F 1 p q).2≠20:=by
  unfold subW
  rw [Ziw F 1 (Zap.1 hp.fin) (Zap.1 hq.fin)]
  by_cases z : F.cls p = 1∧F.cls q = 1∧F.ng p = !F.ng q
  ·rw [if_pos z]; exact (by decide : (0 : Nat)≠20)
  ·rw [if_neg z]
   obtain ⟨i1,i2⟩:=ZlJ (Zbe hp.fin) (Zbe hq.fin)
   refine ZkP F i2 (k:=F.ph + 1) (by rw [show addD (F.vl p) (negD (F.vl q)) = subD (F.vl p) (F.vl q) from rfl,i1]; have:=hp.hi; have:=hq.hi; unfold Fm.X at *; rw [Nat.pow_succ]; omega) (by omega)
 exact (ZyR F hp.lt hq.lt hp.fin hq.fin hv).2.2.dvd (Int.dvd_sub dp dq)
theorem ZCu {F : Fm} {c : Nat} (hc : c < 2 * F.sg) (wc : inW F c) : 2 ^ F.pl≤2 * F.X (mulW2 F 1 c c).1:=by
 obtain ⟨h1,h2,h3,_⟩:=Zcf hc hc wc wc
 have hs : 0≤F.X c * F.X c:=Zjx _
 have hp:=Nat.two_pow_pos F.sh
 have hU:=Zse F
 have hq : 2 ^ F.pl = ((2 ^ F.pl : Nat) : Int):=by rw [Int.natCast_pow]; rfl
 rw [hq]
 rcases Int.lt_or_le (F.X (mulW2 F 1 c c).1) 0 with q | q
 ·exfalso
  unfold Rl at h2
  have hneg : F.X (mulW2 F 1 c c).1 * ((2 ^ F.sh : Nat) : Int) < 0:=Int.mul_neg_of_neg_of_pos q (by omega)
  generalize F.X (mulW2 F 1 c c).1 * ((2 ^ F.sh : Nat) : Int) = r at *
  generalize F.X c * F.X c = n at *
  have h4 : 2 * (n - r).natAbs≤F1 F * (n - r).natAbs:=Nat.mul_le_mul_right _ (by omega)
  omega
 ·omega
theorem ZsV {F : Fm} {c d : Nat} (hc : c < 2 * F.sg) (hd : d < 2 * F.sg) (wc : inW F c) (wd : inW F d) :
  Fb F (fdN F c d) (F.ph + 2)∧Rl (F1 F) (F.X (mulW2 F 1 c c).1 + F.X (mulW2 F 1 d d).1) (F.X (fdN F c d))∧2 ^ (F.pl - 2)≤(F.X (fdN F c d)).natAbs∧0 < F.X (fdN F c d):=by
 obtain ⟨p1,_,_,p4⟩:=Zcf hc hc wc wc
 obtain ⟨q1,_,_,q4⟩:=Zcf hd hd wd wd
 obtain ⟨h1,h2,h3⟩:=ZqL p1 q1 p4 q4
 have s1:=ZCu hc wc
 have s2:=ZCu hd wd
 have hU:=Zse F
 have hq : 2 ^ F.pl = ((2 ^ F.pl : Nat) : Int):=by rw [Int.natCast_pow]; rfl
 rw [hq] at s1 s2
 have hpl : F.pl = (F.pl - 2) + 2:=by have:=ZoR F; omega
 have hp2 : 2 ^ F.pl = 4 * 2 ^ (F.pl - 2):=by rw [hpl,Nat.pow_add,Nat.add_sub_cancel]; omega
 have hpos:=Nat.two_pow_pos (F.pl - 2)
 have h4:=ZEp (by omega) h2
 refine ⟨h1,h2,?_,?_⟩
 ·show _≤(F.X (addW F 1 (mulW2 F 1 c c).1 (mulW2 F 1 d d).1).1).natAbs
  omega
 ·show 0 < F.X (addW F 1 (mulW2 F 1 c c).1 (mulW2 F 1 d d).1).1
  unfold Rl at h2
  have h5 : 2 * (F.X (mulW2 F 1 c c).1 + F.X (mulW2 F 1 d d).1 - F.X (addW F 1 (mulW2 F 1 c c).1 (mulW2 F 1 d d).1).1).natAbs≤F1 F * (F.X (mulW2 F 1 c c).1 + F.X (mulW2 F 1 d d).1 - F.X (addW F 1 (mulW2 F 1 c c).1 (mulW2 F 1 d d).1).1).natAbs:=Nat.mul_le_mul_right _ (by omega)
  omega
theorem ZEq {F : Fm} {w : Nat} (hw : w < 2 * F.sg) (hf : F.fin w) (h : F.X w = 0) : F.cls w = 1:=by
 refine (Zjb hw hf).2 ?_
 rcases Nat.eq_zero_or_pos (F.vl w).m with q | q
 ·exact q
 ·exfalso
  have:=Nat.mul_pos q (Nat.two_pow_pos ((F.vl w).e - F.low).toNat)
  have h2:=congrArg Int.natAbs h
  rw [ZCI,ZyE,Int.natAbs_natCast,Int.natAbs_zero] at h2
  omega
theorem ZmO {F : Fm} {t n : Nat} (ht : Fb F t (F.ph + 2)) (dt : P2 F.pj ∣ F.X t) (hn : Fb F n (F.ph + 2)) (ln : 2 ^ (F.pl - 2)≤(F.X n).natAbs) :
  (divW2 F 1 t n).1 < 2 * F.sg∧F.fin (divW2 F 1 t n).1∧1024 * F1 F * (F.X (divW2 F 1 t n).1 * F.X n - F.X t * (2 ^ F.sh : Nat)).natAbs≤1025 * (F.X t * (2 ^ F.sh : Nat)).natAbs:=by
 obtain ⟨_,_,_,_,_,n6,n7,_⟩:=ZoR F
 have n0 : F.X n≠0:=fun q => by rw [q] at ln; have:=Nat.two_pow_pos (F.pl - 2); simp at ln
 by_cases h0 : F.X t = 0
 ·have c1:=ZEq ht.lt ht.fin h0
  have c2 : F.cls n≠1:=fun q => n0 (Zjy hn.lt q)
  have fn:=Zap.1 hn.fin
  have e : divW2 F 1 t n = (F.sgn (F.ng t != F.ng n),0):=by
   unfold divW2 divP
   rw [if_neg (by omega),if_neg (by omega),if_neg (by omega),if_neg (by omega),if_pos (Or.inl c1)]
  rw [e]
  obtain ⟨g1,g2,_⟩:=Zkl F (F.ng t != F.ng n)
  refine ⟨g1,g2,?_⟩
  simp only
  rw [Zwg,h0,Int.zero_mul,Int.zero_mul]; simp
 ·exact ZEO F ht hn (ZET dt h0) ln n6 n7
theorem iav0 (b : Nat) : iaddrAV 2 4 (.ptr b 0) (.int .i64 0) = some (.ptr b 0):=rfl
theorem iav1 (b : Nat) : iaddrAV 2 4 (.ptr b 0) (.int .i64 1) = some (.ptr b 4):=rfl
def sqs (a b : Dy) : Dy:=addD (mulD a a) (mulD b b)
theorem Zgc (J : Al G T g) (hM : HasM g T) {z y : Bool} {a b : Dy} (ha : Bd a 1000000) (hb : Bd b 1000000) : ∃ z',run G T 390 [DyA z a,DyA y b] = some (DyA z' (sqs a b)):=by
 rw [Zab G T hM.Zgc]
 obtain ⟨y1,m1⟩:=ZkK J (z:=z) (y:=z) ha ha
 obtain ⟨y2,m2⟩:=ZkK J (z:=y) (y:=y) hb hb
 obtain ⟨y3,s1⟩:=Zcg J (z:=y1) (y:=y2) ((Zcw ha ha).mono (by decide)) ((Zcw hb hb).mono (by decide))
 refine ⟨y3,?_⟩
 unfold sqs
 generalize addD (mulD a a) (mulD b b) = s at *
 generalize mulD a a = aa at *
 generalize mulD b b = bb at *
 simp only [DyA,A3] at *
 repeat' (first|simp (maxSteps:=9^7) only [seval,exC,Zek,m1,m2,s1]|simp (maxSteps:=9^7) (disch:=first|with_reducible assumption|omega) only [dxB]|(simp only [kdB];split)|(simp only [kvB];split))
def farD (F : Fm) (r : Nat) (re den : Dy) : Dy:=subD (mulD (F.vl r) den) re
theorem ZpG {F : Fm} {r : Nat} {re den : Dy} (hr : Bd re 40000) (hd : Bd den 40000) : Bd (farD F r re den) 1000000 :=
 (ZvZ ((Zcw ((ZcF F r).mono (by decide)) hd).mono (show 4 * 40000≤160000 by decide)) (hr.mono (show 40000≤160000 by decide))).mono (by decide)
set_option maxHeartbeats 4000000 in
theorem ZoD (J : Al G T g) (hM : HasM g T) (F : Fm) {x y : Nat} {z1 z2 z3 : Bool} {re im den : Dy} (hx : x < 2 * F.sg) (hy : y < 2 * F.sg) (fx : F.fin x) (fy : F.fin y) (br : Bd re 40000) (bi : Bd im 40000) (bd : Bd den 40000) :
  ∃ u v,run G T 365 [.int .u8 F.u,zA x y,DyA z1 re,DyA z2 im,DyA z3 den] = some (.tup [DyA u (shD (sqs (farD F x re den) (farD F y im den)) (2 * ((F.fr : Int) + 1))),DyA v (sqs re im)]):=by
 rw [Zab G T hM.ZoD]
 obtain ⟨u1,v1⟩:=Zbl J F (Zbm hx) fx
 obtain ⟨u2,v2⟩:=Zbl J F (Zbm hy) fy
 rw [← Zbu fx] at v1
 rw [← Zbu fy] at v2
 obtain ⟨w1,m1⟩:=ZkK J (z:=u1) (y:=z3) (a:=F.vl x) (b:=den) ((ZcF F x).mono (by decide)) (bd.mono (by decide))
 obtain ⟨w2,m2⟩:=ZkK J (z:=u2) (y:=z3) (a:=F.vl y) (b:=den) ((ZcF F y).mono (by decide)) (bd.mono (by decide))
 have bm1 : Bd (mulD (F.vl x) den) 34359738368:=(Zcw ((ZcF F x).mono (by decide)) bd).mono (by decide)
 have bm2 : Bd (mulD (F.vl y) den) 34359738368:=(Zcw ((ZcF F y).mono (by decide)) bd).mono (by decide)
 obtain ⟨w3,s1⟩:=ZfC J (z:=w1) (y:=z1) bm1 (br.mono (by decide))
 obtain ⟨w4,s2⟩:=ZfC J (z:=w2) (y:=z2) bm2 (bi.mono (by decide))
 have b1:=ZpG (F:=F) (r:=x) br bd
 have b2:=ZpG (F:=F) (r:=y) bi bd
 obtain ⟨w5,q1⟩:=Zgc J hM (z:=w3) (y:=w4) b1 b2
 obtain ⟨w6,q2⟩:=Zgc J hM (z:=z1) (y:=z2) (br.mono (by decide)) (bi.mono (by decide))
 have bs : Bd (sqs (farD F x re den) (farD F y im den)) 20000000:=(ZeC (Zcw b1 b1) (Zcw b2 b2)).mono (by decide)
 have fr:=ZcS J F
 have hF:=ZaH F
 have sh:=ZdD J (z:=w5) (d:=sqs (farD F x re den) (farD F y im den)) (k:=2 * ((F.fr : Int) + 1)) (by omega) (by have:=bs.lo; have:=bs.hi; omega)
 refine ⟨w5,w6,?_⟩
 have e1 : IntKind.i64.wrap ((F.fr : Int) + 1) = (F.fr : Int) + 1:=Zaf (by omega)
 have e2 : IntKind.i64.wrap (2 * ((F.fr : Int) + 1)) = 2 * ((F.fr : Int) + 1):=Zaf (by omega)
 clear hF bs bm1 bm2 b1 b2 br bi bd
 unfold farD at *
 generalize shD (sqs (subD (mulD (F.vl x) den) re) (subD (mulD (F.vl y) den) im)) (2 * ((F.fr : Int) + 1)) = S at *
 generalize sqs (subD (mulD (F.vl x) den) re) (subD (mulD (F.vl y) den) im) = S0 at *
 generalize subD (mulD (F.vl x) den) re = d1 at *
 generalize subD (mulD (F.vl y) den) im = d2 at *
 generalize mulD (F.vl x) den = p1 at *
 generalize mulD (F.vl y) den = p2 at *
 generalize F.vl x = a at *
 generalize F.vl y = b at *
 generalize sqs re im = S1 at *
 generalize (F.fr : Int) = k at *
 simp only [zA,DyA,A3] at *
 repeat' (first|simp (maxSteps:=9^7) only [seval,exC,ZiW,v1,v2,m1,m2,s1,s2,q1,q2,fr,e1,e2,sh]|simp (maxSteps:=9^7) (disch:=first|with_reducible assumption|omega) only [dxB]|(simp only [kdB];split)|(simp only [kvB];split))
theorem Zke (J : Al G T g) (hM : HasM g T) (F : Fm) {x y k : Nat} {z1 z2 z3 : Bool} {re im den : Dy} (hx : x < 2 * F.sg) (hy : y < 2 * F.sg) (fx : F.fin x) (fy : F.fin y) (br : Bd re 40000) (bi : Bd im 40000) (bd : Bd den 40000) (hk : k≤41) :
  run G T 334 [.int .u8 F.u,zA x y,DyA z1 re,DyA z2 im,DyA z3 den,.int .i64 (k : Int)] = some (.bool (decide (cmpD (shD (sqs (farD F x re den) (farD F y im den)) (2 * ((F.fr : Int) + 1))) (mulD (mulD (intD (k : Int)) (intD (k : Int))) (sqs re im))≤0))):=by
 rw [Zab G T hM.Zke]
 obtain ⟨u,v,f1⟩:=ZoD J hM F (z1:=z1) (z2:=z2) (z3:=z3) hx hy fx fy br bi bd
 obtain ⟨u1,i1⟩:=Zox J (n:=(k : Int)) (by omega) (by omega)
 have bk:=ZEf hk
 have bs2 : Bd (sqs re im) 1000000:=(ZeC (Zcw br br) (Zcw bi bi)).mono (by decide)
 obtain ⟨u2,m1⟩:=ZkK J (z:=u1) (y:=u1) (a:=intD (k : Int)) (b:=intD (k : Int)) (bk.mono (by decide)) (bk.mono (by decide))
 have bkk : Bd (mulD (intD (k : Int)) (intD (k : Int))) 1000000:=(Zcw bk bk).mono (by decide)
 obtain ⟨u3,m2⟩:=ZkK J (z:=u2) (y:=v) bkk bs2
 have b1:=ZpG (F:=F) (r:=x) br bd
 have b2:=ZpG (F:=F) (r:=y) bi bd
 have bs : Bd (sqs (farD F x re den) (farD F y im den)) 20000000:=(ZeC (Zcw b1 b1) (Zcw b2 b2)).mono (by decide)
 have hF:=ZaH F
 have bsh : Bd (shD (sqs (farD F x re den) (farD F y im den)) (2 * ((F.fr : Int) + 1))) 34359738368:=(ZvY bs (L:=200) (k:=2 * ((F.fr : Int) + 1)) (by omega)).mono (by decide)
 have c1:=ZlW J (z:=u) (y:=u3) bsh ((Zcw bkk bs2).mono (by decide))
 clear hF bs bsh b1 b2 bkk bs2 bk br bi bd
 generalize shD (sqs (farD F x re den) (farD F y im den)) (2 * ((F.fr : Int) + 1)) = S at *
 generalize mulD (mulD (intD (k : Int)) (intD (k : Int))) (sqs re im) = R at *
 generalize mulD (intD (k : Int)) (intD (k : Int)) = R1 at *
 generalize sqs re im = R2 at *
 generalize intD (k : Int) = d at *
 generalize (k : Int) = m at *
 generalize cmpD S R = c at *
 simp only [zA,DyA,A3] at *
 by_cases hc : c≤0
 ·rw [decide_eq_true hc]
  repeat' (first|simp (maxSteps:=9^7) only [seval,exC,Zdk,f1,i1,m1,m2,c1,hc]|simp (maxSteps:=9^7) (disch:=first|with_reducible assumption|omega) only [dxB]|(simp only [kdB];split)|(simp only [kvB];split))
 ·rw [decide_eq_false hc]
  repeat' (first|simp (maxSteps:=9^7) only [seval,exC,Zdk,f1,i1,m1,m2,c1,hc]|simp (maxSteps:=9^7) (disch:=first|with_reducible assumption|omega) only [dxB]|(simp only [kdB];split)|(simp only [kvB];split))
set_option maxHeartbeats 4000000 in
theorem ZhP (J : Al G T g) (hM : HasM g T) (F : Fm) {a b c d : Nat} (ha : a < 2 * F.sg) (hb : b < 2 * F.sg) (hc : c < 2 * F.sg) (hd : d < 2 * F.sg) (fa : F.fin a) (fb : F.fin b) (fc : F.fin c) (fd : F.fin d) :
  ∃ u v w,run G T 336 [.int .u8 F.u,zA a b,zA c d] = some (.tup [DyA u (addD (tm F a c false).1 (tm F b d false).1),DyA v (addD (tm F b c false).1 (tm F a d true).1),DyA w (sqD F c d)]):=by
 rw [Zab G T hM.ZhP]
 obtain ⟨z,y,u,v,w,p1⟩:=Zfo J F ha hb hc hd fa fb fc fd
 obtain ⟨w1,s1⟩:=Zcg J (z:=z) (y:=y) ((ZgL F a c false).1.mono (by decide)) ((ZgL F b d false).1.mono (by decide))
 obtain ⟨w2,s2⟩:=Zcg J (z:=u) (y:=v) ((ZgL F b c false).1.mono (by decide)) ((ZgL F a d true).1.mono (by decide))
 refine ⟨w1,w2,w,?_⟩
 generalize addD (tm F a c false).1 (tm F b d false).1 = A at *
 generalize addD (tm F b c false).1 (tm F a d true).1 = B at *
 generalize tm F a c false = t1 at *
 generalize tm F b d false = t2 at *
 generalize tm F b c false = t3 at *
 generalize tm F a d true = t4 at *
 generalize sqD F c d = s at *
 simp only [zA,DyA,A3,gaussA] at *
 repeat' (first|simp (maxSteps:=9^7) only [seval,exC,Zdq,iav0,iav1,p1,s1,s2]|simp (maxSteps:=9^7) (disch:=first|with_reducible assumption|omega) only [dxB]|(simp only [kdB];split)|(simp only [kvB];split))
theorem Rl.scale {U : Nat} {n r : Int} (h : Rl U n r) (S : Int) : Rl U (n * S) (r * S):=by
 unfold Rl at *
 rw [← Int.sub_mul,Int.natAbs_mul,Int.natAbs_mul,← Nat.mul_assoc]
 exact Nat.mul_le_mul_right _ h
theorem Rl.neg {U : Nat} {n r : Int} (h : Rl U n r) : Rl U (-n) (-r):=by
 unfold Rl at *
 rw [show -n - -r = -(n - r) by omega,Int.natAbs_neg,Int.natAbs_neg]; exact h
theorem sum3 {U : Nat} (hU : 8≤U) {ac bd ps qs xs : Int} (h1 : Rl U ac ps) (h2 : Rl U bd qs) (h3 : Rl U (ps + qs) xs) : 8 * (U * (xs - (ac + bd)).natAbs)≤17 * (ac.natAbs + bd.natAbs):=by
 unfold Rl at *
 have t1 : (xs - (ac + bd)).natAbs≤(ps + qs - xs).natAbs + (ac - ps).natAbs + (bd - qs).natAbs:=by omega
 have t2:=Nat.mul_le_mul_left U t1
 rw [Nat.mul_add,Nat.mul_add] at t2
 have a1 : 8 * (ac - ps).natAbs≤U * (ac - ps).natAbs:=Nat.mul_le_mul_right _ hU
 have a2 : 8 * (bd - qs).natAbs≤U * (bd - qs).natAbs:=Nat.mul_le_mul_right _ hU
 omega
theorem sq4 {p q : Int} : 4 * (p.natAbs * q.natAbs)≤2 * (p * p + q * q).natAbs:=by
 have h:=Zjx ((p.natAbs : Int) - (q.natAbs : Int))
 have h1 : ((p.natAbs : Int) - (q.natAbs : Int)) * ((p.natAbs : Int) - (q.natAbs : Int)) = (p.natAbs : Int) * p.natAbs - 2 * ((p.natAbs : Int) * q.natAbs) + (q.natAbs : Int) * q.natAbs:=by
  rw [Int.sub_mul,Int.mul_sub,Int.mul_sub,Int.mul_comm (q.natAbs : Int) (p.natAbs : Int)]; omega
 rw [h1,← Int.natCast_mul,← Int.natCast_mul,← Int.natCast_mul,Int.natAbs_mul_self,Int.natAbs_mul_self] at h
 have:=Zjx p
 have:=Zjx q
 omega
theorem Zzc (A B C D : Int) : ((A * C).natAbs + (B * D).natAbs) * ((A * C).natAbs + (B * D).natAbs) + ((A * D).natAbs + (B * C).natAbs) * ((A * D).natAbs + (B * C).natAbs)≤2 * ((A * A + B * B) * (C * C + D * D)).natAbs:=by
 have e : ((A * A + B * B) * (C * C + D * D)).natAbs = (A * C).natAbs * (A * C).natAbs + (B * D).natAbs * (B * D).natAbs + (A * D).natAbs * (A * D).natAbs + (B * C).natAbs * (B * C).natAbs:=by
  have e1 : (A * A + B * B) * (C * C + D * D) = (A * C) * (A * C) + (B * D) * (B * D) + (A * D) * (A * D) + (B * C) * (B * C):=by
   rw [Int.add_mul,Int.mul_add,Int.mul_add]
   have f1 : A * A * (C * C) = A * C * (A * C):=by simp only [Int.mul_assoc,Int.mul_left_comm]
   have f2 : A * A * (D * D) = A * D * (A * D):=by simp only [Int.mul_assoc,Int.mul_left_comm]
   have f3 : B * B * (C * C) = B * C * (B * C):=by simp only [Int.mul_assoc,Int.mul_left_comm]
   have f4 : B * B * (D * D) = B * D * (B * D):=by simp only [Int.mul_assoc,Int.mul_left_comm]
   rw [f1,f2,f3,f4]; omega
  rw [e1,← Int.natAbs_mul_self (a:=A * C),← Int.natAbs_mul_self (a:=B * D),← Int.natAbs_mul_self (a:=A * D),← Int.natAbs_mul_self (a:=B * C)]
  omega
 have c1:=sq4 (p:=((A * C).natAbs : Int)) (q:=((B * D).natAbs : Int))
 have c2:=sq4 (p:=((A * D).natAbs : Int)) (q:=((B * C).natAbs : Int))
 simp only [Int.natAbs_natCast] at c1 c2
 have d1 : ((((A * C).natAbs : Int) * ((A * C).natAbs : Int) + ((B * D).natAbs : Int) * ((B * D).natAbs : Int))).natAbs = (A * C).natAbs * (A * C).natAbs + (B * D).natAbs * (B * D).natAbs:=by
  rw [← Int.natCast_mul,← Int.natCast_mul]; omega
 have d2 : ((((A * D).natAbs : Int) * ((A * D).natAbs : Int) + ((B * C).natAbs : Int) * ((B * C).natAbs : Int))).natAbs = (A * D).natAbs * (A * D).natAbs + (B * C).natAbs * (B * C).natAbs:=by
  rw [← Int.natCast_mul,← Int.natCast_mul]; omega
 rw [d1] at c1
 rw [d2] at c2
 rw [e]
 generalize (A * C).natAbs = p at *
 generalize (B * D).natAbs = q at *
 generalize (A * D).natAbs = r at *
 generalize (B * C).natAbs = s at *
 have g1 : (p + q) * (p + q) = p * p + q * q + 2 * (p * q):=by rw [Nat.add_mul,Nat.mul_add,Nat.mul_add,Nat.mul_comm q p]; omega
 have g2 : (r + s) * (r + s) = r * r + s * s + 2 * (r * s):=by rw [Nat.add_mul,Nat.mul_add,Nat.mul_add,Nat.mul_comm s r]; omega
 rw [g1,g2]
 omega
theorem ZvN {U e1 e2 M1 M2 N k s t : Nat} (h1 : s * (U * e1)≤t * M1) (h2 : s * (U * e2)≤t * M2) (hN : M1 * M1 + M2 * M2≤2 * N) (hk : 2 * (t * t)≤k * (s * s)) (hs : 0 < s) : U * U * (e1 * e1 + e2 * e2)≤k * N:=by
 have a1:=Nat.mul_le_mul h1 h1
 have a2:=Nat.mul_le_mul h2 h2
 have f1 : s * (U * e1) * (s * (U * e1)) = s * s * (U * U * (e1 * e1)):=by simp only [Nat.mul_assoc,Nat.mul_left_comm]
 have f2 : s * (U * e2) * (s * (U * e2)) = s * s * (U * U * (e2 * e2)):=by simp only [Nat.mul_assoc,Nat.mul_left_comm]
 have f3 : t * M1 * (t * M1) = t * t * (M1 * M1):=by simp only [Nat.mul_assoc,Nat.mul_left_comm]
 have f4 : t * M2 * (t * M2) = t * t * (M2 * M2):=by simp only [Nat.mul_assoc,Nat.mul_left_comm]
 rw [f1,f3] at a1
 rw [f2,f4] at a2
 have b1 : s * s * (U * U * (e1 * e1 + e2 * e2))≤t * t * (M1 * M1 + M2 * M2):=by rw [Nat.mul_add (U * U),Nat.mul_add (s * s),Nat.mul_add (t * t)]; exact Nat.add_le_add a1 a2
 have b2 : t * t * (M1 * M1 + M2 * M2)≤t * t * (2 * N):=Nat.mul_le_mul_left _ hN
 have b3 : t * t * (2 * N) = 2 * (t * t) * N:=by rw [← Nat.mul_assoc,Nat.mul_comm (t * t) 2]
 have b4 : 2 * (t * t) * N≤k * (s * s) * N:=Nat.mul_le_mul_right _ hk
 have b5 : k * (s * s) * N = s * s * (k * N):=by rw [Nat.mul_comm k,Nat.mul_assoc]
 exact Nat.le_of_mul_le_mul_left (by omega : s * s * (U * U * (e1 * e1 + e2 * e2))≤s * s * (k * N)) (Nat.mul_pos hs hs)
theorem ZAb (A B C D : Int) : (A * C - B * D) * (A * C - B * D) + (A * D + B * C) * (A * D + B * C) = (A * A + B * B) * (C * C + D * D):=by
 have h:=(show ∀ p q r s m n : Int,m = p * q→n = r * s→p * q = r * s→True from fun _ _ _ _ _ _ _ _ _ => trivial)
 simp only [Int.sub_mul,Int.mul_sub,Int.add_mul,Int.mul_add]
 have f1 : A * C * (A * C) = A * A * (C * C):=by simp only [Int.mul_assoc,Int.mul_left_comm]
 have f2 : A * D * (A * D) = A * A * (D * D):=by simp only [Int.mul_assoc,Int.mul_left_comm]
 have f3 : B * C * (B * C) = B * B * (C * C):=by simp only [Int.mul_assoc,Int.mul_left_comm]
 have f4 : B * D * (B * D) = B * B * (D * D):=by simp only [Int.mul_assoc,Int.mul_left_comm]
 have f5 : B * D * (A * C) = A * C * (B * D):=Int.mul_comm ..
 have f6 : B * C * (A * D) = A * D * (B * C):=Int.mul_comm ..
 have f7 : A * D * (B * C) = A * C * (B * D):=by simp only [Int.mul_assoc,Int.mul_left_comm,Int.mul_comm]
 rw [f1,f2,f3,f4,f5,f6,f7]
 omega
theorem Ztz {U : Nat} (hU : 1024≤U) {t n x re N2 S : Int} {M1 : Nat} (hS : 0 < S) (hn : 0 < n) (hN : 0 < N2)
  (h1 : 1024 * U * (x * n - t * S).natAbs≤1025 * (t * S).natAbs) (h2 : 8 * (U * (t * S - re).natAbs)≤17 * M1) (h3 : 8 * (U * (n * S - N2).natAbs)≤17 * N2.natAbs) (hM : re.natAbs≤M1) :
  1 * (U * (x * N2 - re * S).natAbs)≤6 * (M1 * S.natAbs):=by
 -- n times it,in three parts
 have e : n * (x * N2 - re * S) = (x * n - t * S) * N2 + (t * S - re) * N2 + re * (N2 - n * S):=by
  simp only [Int.sub_mul,Int.mul_sub]
  have f1 : n * (x * N2) = x * n * N2:=by simp only [Int.mul_assoc,Int.mul_left_comm]
  have f2 : n * (re * S) = re * (n * S):=Int.mul_left_comm ..
  rw [f1,f2]; omega
 have t1 : n.natAbs * (x * N2 - re * S).natAbs≤(x * n - t * S).natAbs * N2.natAbs + (t * S - re).natAbs * N2.natAbs + re.natAbs * (N2 - n * S).natAbs:=by
  rw [← Int.natAbs_mul,e]
  have q1:=Int.natAbs_mul (x * n - t * S) N2
  have q2:=Int.natAbs_mul (t * S - re) N2
  have q3:=Int.natAbs_mul re (N2 - n * S)
  omega
 have hsym : (N2 - n * S).natAbs = (n * S - N2).natAbs:=by omega
 rw [hsym] at t1
 have m1:=Nat.mul_le_mul_right N2.natAbs h1
 have m2:=Nat.mul_le_mul_right N2.natAbs h2
 have m3:=Nat.mul_le_mul_left re.natAbs h3
 have m4:=Nat.mul_le_mul_right N2.natAbs hM
 -- the size of t S
 have s1 : 8 * (1024 * (t * S - re).natAbs)≤8 * (U * (t * S - re).natAbs):=Nat.mul_le_mul_left 8 (Nat.mul_le_mul_right _ hU)
 have s2 : 8 * (t * S).natAbs≤9 * M1:=by omega
 have m5:=Nat.mul_le_mul_right N2.natAbs s2
 have t2:=Nat.mul_le_mul_left U t1
 rw [Nat.mul_add,Nat.mul_add] at t2
 have g1 : 1024 * U * (x * n - t * S).natAbs * N2.natAbs = 1024 * (U * ((x * n - t * S).natAbs * N2.natAbs)):=by simp only [Nat.mul_assoc]
 have g2 : 8 * (U * (t * S - re).natAbs) * N2.natAbs = 8 * (U * ((t * S - re).natAbs * N2.natAbs)):=by simp only [Nat.mul_assoc]
 have g3 : re.natAbs * (8 * (U * (n * S - N2).natAbs)) = 8 * (U * (re.natAbs * (n * S - N2).natAbs)):=by simp only [Nat.mul_left_comm]
 have g4 : re.natAbs * (17 * N2.natAbs) = 17 * (re.natAbs * N2.natAbs):=Nat.mul_left_comm ..
 have g5 : 17 * M1 * N2.natAbs = 17 * (M1 * N2.natAbs):=Nat.mul_assoc ..
 have g6 : 8 * (t * S).natAbs * N2.natAbs = 8 * ((t * S).natAbs * N2.natAbs):=Nat.mul_assoc ..
 have g7 : 9 * M1 * N2.natAbs = 9 * (M1 * N2.natAbs):=Nat.mul_assoc ..
 have g8 : 1025 * (t * S).natAbs * N2.natAbs = 1025 * ((t * S).natAbs * N2.natAbs):=Nat.mul_assoc ..
 rw [g1,g8] at m1
 rw [g2,g5] at m2
 rw [g3,g4] at m3
 rw [g6,g7] at m5
 have r1 : 2 * (U * (n.natAbs * (x * N2 - re * S).natAbs))≤11 * (M1 * N2.natAbs):=by omega
 -- n S is not much less than N2
 have s3 : 8 * (1024 * (n * S - N2).natAbs)≤8 * (U * (n * S - N2).natAbs):=Nat.mul_le_mul_left 8 (Nat.mul_le_mul_right _ hU)
 have s4 : 15 * N2.natAbs≤16 * (n * S).natAbs:=by omega
 rw [Int.natAbs_mul] at s4
 have r2:=Nat.mul_le_mul_right (U * (x * N2 - re * S).natAbs) s4
 have r3:=Nat.mul_le_mul_left (16 * S.natAbs) r1
 have g9 : 16 * (n.natAbs * S.natAbs) * (U * (x * N2 - re * S).natAbs) = 16 * (S.natAbs * (U * (n.natAbs * (x * N2 - re * S).natAbs))):=by simp only [Nat.mul_assoc,Nat.mul_left_comm]
 have g10 : 16 * S.natAbs * (2 * (U * (n.natAbs * (x * N2 - re * S).natAbs))) = 32 * (S.natAbs * (U * (n.natAbs * (x * N2 - re * S).natAbs))):=by
  generalize U * (n.natAbs * (x * N2 - re * S).natAbs) = z
  rw [Nat.mul_assoc,Nat.mul_left_comm S.natAbs 2 z,← Nat.mul_assoc]
 have g11 : 16 * S.natAbs * (11 * (M1 * N2.natAbs)) = 176 * (N2.natAbs * (M1 * S.natAbs)):=by
  have : S.natAbs * (M1 * N2.natAbs) = N2.natAbs * (M1 * S.natAbs):=by simp only [Nat.mul_left_comm,Nat.mul_comm,Nat.mul_assoc]
  rw [Nat.mul_assoc,Nat.mul_left_comm S.natAbs 11,this,← Nat.mul_assoc]
 have g12 : 15 * N2.natAbs * (U * (x * N2 - re * S).natAbs) = 15 * (N2.natAbs * (U * (x * N2 - re * S).natAbs)):=Nat.mul_assoc ..
 rw [g9,g12] at r2
 rw [g10,g11] at r3
 have r4 : N2.natAbs * (1 * (U * (x * N2 - re * S).natAbs))≤N2.natAbs * (6 * (M1 * S.natAbs)):=by
  rw [Nat.one_mul,Nat.mul_left_comm N2.natAbs 6]
  omega
 exact Nat.le_of_mul_le_mul_left r4 (by omega)
end Go.Cv
namespace Go.Cv
variable {G : Nat→Option (List AV)} {T : Tbl} {g : Nat}
theorem ZFq (d : Dy) (k L : Int) : iv (shD d k) L = iv d (L - k):=by
 unfold shD
 by_cases h : d.m = 0
 ·rw [ZaO h,ZaO]
  split
  ·rename_i q; first | rfl | exact h
  ·exact h
 ·first
  | rw [if_neg h]; unfold iv; simp only; congr 4; omega
  | (unfold iv; simp only; congr 4; omega)
theorem ZCA {d : Dy} {k L : Int} (h : LoE d (L - k)) : LoE (shD d k) L:=by
 rcases h with h | h
 ·left; unfold shD; split <;> first | rfl | exact h
 ·unfold shD
  split
  ·exact Or.inl (by first | rfl | assumption)
  ·right; simp only; omega
theorem ZDo (k : Nat) {L : Int} (h : L≤0) : iv (intD (k : Int)) L = ((k * 2 ^ (-L).toNat : Nat) : Int)∧LoE (intD (k : Int)) L:=by
 rw [Zqg]
 refine ⟨?_,ZcY h⟩
 rw [ZhN h,show (0 - L) = -L by omega]; simp
theorem within (F : Fm) {x y k : Nat} {re im den : Dy} {Kd : Int} (fx : F.fin x) (fy : F.fin y) (hd : LoE den Kd) (hre : LoE re (F.low + Kd)) (him : LoE im (F.low + Kd))
  (h : F1 F * F1 F * ((F.X x * iv den Kd - iv re (F.low + Kd)).natAbs * (F.X x * iv den Kd - iv re (F.low + Kd)).natAbs + (F.X y * iv den Kd - iv im (F.low + Kd)).natAbs * (F.X y * iv den Kd - iv im (F.low + Kd)).natAbs)≤k * k * (iv re (F.low + Kd) * iv re (F.low + Kd) + iv im (F.low + Kd) * iv im (F.low + Kd)).natAbs) :
  cmpD (shD (sqs (farD F x re den) (farD F y im den)) (2 * ((F.fr : Int) + 1))) (mulD (mulD (intD (k : Int)) (intD (k : Int))) (sqs re im))≤0:=by
 obtain ⟨K,hK⟩ : ∃ K,K = F.low + Kd:=⟨_,rfl⟩
 rw [← hK] at h hre him
 obtain ⟨m1,n1⟩:=ZbU (Zbe fx) hd
 obtain ⟨m2,n2⟩:=ZbU (Zbe fy) hd
 rw [← hK] at m1 n1 m2 n2
 obtain ⟨s1,t1⟩:=ZlJ n1 hre
 obtain ⟨s2,t2⟩:=ZlJ n2 him
 obtain ⟨q1,r1⟩:=ZbU t1 t1
 obtain ⟨q2,r2⟩:=ZbU t2 t2
 obtain ⟨a1,a2⟩:=Zdn r1 r2
 obtain ⟨q3,r3⟩:=ZbU hre hre
 obtain ⟨q4,r4⟩:=ZbU him him
 obtain ⟨a3,a4⟩:=Zdn r3 r4
 obtain ⟨i1,j1⟩:=ZDo k (Int.le_refl 0)
 obtain ⟨i2,j2⟩:=ZbU j1 j1
 obtain ⟨i3,j3⟩:=ZbU j2 a4
 have hsc:=Zjf (L':=K + K - 2 * ((F.fr : Int) + 1)) a2 (by omega)
 have e1:=ZFq (sqs (farD F x re den) (farD F y im den)) (2 * ((F.fr : Int) + 1)) (K + K)
 have e2 : LoE (shD (sqs (farD F x re den) (farD F y im den)) (2 * ((F.fr : Int) + 1))) (K + K):=ZCA (a2.mono (by omega))
 rw [show (0 : Int) + 0 + (K + K) = K + K by omega] at i3 j3
 change LoE (mulD (mulD (intD (k : Int)) (intD (k : Int))) (sqs re im)) (K + K) at j3
 rw [ZmT e2 j3,e1]
 change iv (mulD (mulD (intD (k : Int)) (intD (k : Int))) (sqs re im)) (K + K) = _ at i3
 rw [i3]
 change iv (sqs (farD F x re den) (farD F y im den)) _ = _ * _ at hsc
 rw [hsc,a1,q1,q2,a3,q3,q4]
 change iv (subD (mulD (F.vl x) den) re) K = _ at s1
 change iv (subD (mulD (F.vl y) den) im) K = _ at s2
 rw [s1,s2,m1,m2,i2,i1]
 have w1 : (K + K - (K + K - 2 * ((F.fr : Int) + 1))).toNat = (F.fr + 1) + (F.fr + 1):=by omega
 rw [w1,Nat.pow_add]
 change F1 F * F1 F * _≤_ at h
 have w2 : (2 : Nat) ^ (F.fr + 1) = F1 F:=rfl
 rw [w2]
 have w3 : k * 2 ^ (-(0 : Int)).toNat = k:=by simp
 rw [w3]
 show sgI (((iv (F.vl x) F.low * iv den Kd - iv re K) * (iv (F.vl x) F.low * iv den Kd - iv re K) + (iv (F.vl y) F.low * iv den Kd - iv im K) * (iv (F.vl y) F.low * iv den Kd - iv im K)) * ((F1 F * F1 F : Nat) : Int) - (k : Int) * k * (iv re K * iv re K + iv im K * iv im K))≤0
 change F1 F * F1 F * ((iv (F.vl x) F.low * iv den Kd - iv re K).natAbs * (iv (F.vl x) F.low * iv den Kd - iv re K).natAbs + (iv (F.vl y) F.low * iv den Kd - iv im K).natAbs * (iv (F.vl y) F.low * iv den Kd - iv im K).natAbs)≤_ at h
 generalize iv (F.vl x) F.low * iv den Kd - iv re K = u at *
 generalize iv (F.vl y) F.low * iv den Kd - iv im K = v at *
 have p1:=Zjx (iv re K)
 have p2:=Zjx (iv im K)
 have hN0 : 0≤iv re K * iv re K + iv im K * iv im K:=by omega
 clear p1 p2 a3 q3 q4 i3
 generalize iv re K * iv re K + iv im K * iv im K = N at *
 have hu : (u * u + v * v) * ((F1 F * F1 F : Nat) : Int) = ((F1 F * F1 F * (u.natAbs * u.natAbs + v.natAbs * v.natAbs) : Nat) : Int):=by
  rw [Int.natCast_mul (F1 F * F1 F),Int.natCast_add,Int.natAbs_mul_self,Int.natAbs_mul_self,Int.mul_comm]
 have hN : (k : Int) * k * N = ((k * k * N.natAbs : Nat) : Int):=by rw [Int.natCast_mul,Int.natCast_mul,Int.natAbs_of_nonneg hN0]
 rw [hu,hN]
 unfold sgI
 split
 ·decide
 ·rw [if_neg (by omega)]; decide
theorem ZAE {F : Fm} {p q : Nat} {A C B D : Int} (h1 : Rl (F1 F) (A * C) (F.X p * (2 ^ F.sh : Nat))) (h2 : Rl (F1 F) (B * D) (F.X q * (2 ^ F.sh : Nat))) {x : Int} (h3 : Rl (F1 F) (F.X p + F.X q) x) :
  8 * (F1 F * (x * (2 ^ F.sh : Nat) - (A * C + B * D)).natAbs)≤17 * ((A * C).natAbs + (B * D).natAbs):=by
 have h4:=h3.scale ((2 ^ F.sh : Nat) : Int)
 rw [Int.add_mul] at h4
 exact sum3 (Nat.le_trans (by decide) (Zse F)) h1 h2 h4
theorem ZCF {F : Fm} {p q : Nat} {A C B D : Int} (h1 : Rl (F1 F) (A * C) (F.X p * (2 ^ F.sh : Nat))) (h2 : Rl (F1 F) (B * D) (F.X q * (2 ^ F.sh : Nat))) {x : Int} (h3 : Rl (F1 F) (F.X p - F.X q) x) :
  8 * (F1 F * (x * (2 ^ F.sh : Nat) - (A * C - B * D)).natAbs)≤17 * ((A * C).natAbs + (B * D).natAbs):=by
 have h4:=h3.scale ((2 ^ F.sh : Nat) : Int)
 rw [Int.sub_mul,Int.sub_eq_add_neg] at h4
 have:=sum3 (Nat.le_trans (by decide) (Zse F)) h1 h2.neg h4
 rw [Int.natAbs_neg] at this
 exact this
section
variable {F : Fm} {a b c d : Nat} (ha : a < 2 * F.sg) (hb : b < 2 * F.sg) (hc : c < 2 * F.sg) (hd : d < 2 * F.sg) (wa : inW F a) (wb : inW F b) (wc : inW F c) (wd : inW F d)
 include ha hb hc hd wa wb wc wd
theorem ZFs : (LoE (addD (tm F a c false).1 (tm F b d true).1) (F.low + F.low)∧iv (addD (tm F a c false).1 (tm F b d true).1) (F.low + F.low) = F.X a * F.X c - F.X b * F.X d) ∧
  (LoE (addD (tm F a d false).1 (tm F b c false).1) (F.low + F.low)∧iv (addD (tm F a d false).1 (tm F b c false).1) (F.low + F.low) = F.X a * F.X d + F.X b * F.X c) ∧
  (LoE (addD (tm F a c false).1 (tm F b d false).1) (F.low + F.low)∧iv (addD (tm F a c false).1 (tm F b d false).1) (F.low + F.low) = F.X a * F.X c + F.X b * F.X d) ∧
  (LoE (addD (tm F b c false).1 (tm F a d true).1) (F.low + F.low)∧iv (addD (tm F b c false).1 (tm F a d true).1) (F.low + F.low) = F.X b * F.X c - F.X a * F.X d):=by
 have fa:=Zbe (Ziq ha wa).1.fin
 have fb:=Zbe (Ziq hb wb).1.fin
 have fc:=Zbe (Ziq hc wc).1.fin
 have fd:=Zbe (Ziq hd wd).1.fin
 obtain ⟨m1,n1⟩:=ZbU fa fc
 obtain ⟨m2,n2⟩:=ZbU fb fd
 obtain ⟨m3,n3⟩:=ZbU fa fd
 obtain ⟨m4,n4⟩:=ZbU fb fc
 obtain ⟨i1,l1⟩:=Zdn n1 (Zmz n2)
 obtain ⟨i2,l2⟩:=Zdn n3 n4
 obtain ⟨i3,l3⟩:=Zdn n1 n2
 obtain ⟨i4,l4⟩:=Zdn n4 (Zmz n3)
 refine ⟨⟨l1,?_⟩,⟨l2,?_⟩,⟨l3,?_⟩,⟨l4,?_⟩⟩
 ·show iv (addD (mulD (F.vl a) (F.vl c)) (negD (mulD (F.vl b) (F.vl d)))) _ = _
  rw [i1,Zpl,m1,m2]; unfold Fm.X; omega
 ·show iv (addD (mulD (F.vl a) (F.vl d)) (mulD (F.vl b) (F.vl c))) _ = _
  rw [i2,m3,m4]; rfl
 ·show iv (addD (mulD (F.vl a) (F.vl c)) (mulD (F.vl b) (F.vl d))) _ = _
  rw [i3,m1,m2]; rfl
 ·show iv (addD (mulD (F.vl b) (F.vl c)) (negD (mulD (F.vl a) (F.vl d)))) _ = _
  rw [i4,Zpl,m4,m3]; unfold Fm.X; omega
theorem Zyn : (fdX F a b c d < 2 * F.sg∧F.fin (fdX F a b c d))∧fdY F a b c d < 2 * F.sg∧F.fin (fdY F a b c d):=by
 obtain ⟨p1,p2,_,p4⟩:=Zcf ha hc wa wc
 obtain ⟨q1,q2,_,q4⟩:=Zcf hb hd wb wd
 obtain ⟨r1,r2,_,r4⟩:=Zcf ha hd wa wd
 obtain ⟨s1,s2,_,s4⟩:=Zcf hb hc wb wc
 obtain ⟨t1,_,t3⟩:=ZqL p1 q1 p4 q4
 obtain ⟨u1,_,u3⟩:=ZsW s1 r1 s4 r4
 obtain ⟨n1,_,n3,_⟩:=ZsV hc hd wc wd
 obtain ⟨x1,x2,_⟩:=ZmO t1 t3 n1 n3
 obtain ⟨y1,y2,_⟩:=ZmO u1 u3 n1 n3
 exact ⟨⟨x1,x2⟩,y1,y2⟩
set_option maxHeartbeats 4000000 in
theorem ZvO : cmpD (shD (sqs (farD F (fdX F a b c d) (addD (tm F a c false).1 (tm F b d false).1) (sqD F c d)) (farD F (fdY F a b c d) (addD (tm F b c false).1 (tm F a d true).1) (sqD F c d))) (2 * ((F.fr : Int) + 1)))
  (mulD (mulD (intD ((12 : Nat) : Int)) (intD ((12 : Nat) : Int))) (sqs (addD (tm F a c false).1 (tm F b d false).1) (addD (tm F b c false).1 (tm F a d true).1)))≤0:=by
 have hF:=ZaH F
 obtain ⟨⟨_,fx⟩,_,fy⟩:=Zyn ha hb hc hd wa wb wc wd
 obtain ⟨_,_,⟨l1,i1⟩,⟨l2,i2⟩⟩:=ZFs ha hb hc hd wa wb wc wd
 obtain ⟨p1,p2,_,p4⟩:=Zcf ha hc wa wc
 obtain ⟨q1,q2,_,q4⟩:=Zcf hb hd wb wd
 obtain ⟨r1,r2,_,r4⟩:=Zcf ha hd wa wd
 obtain ⟨s1,s2,_,s4⟩:=Zcf hb hc wb wc
 obtain ⟨t1,t2,t3⟩:=ZqL p1 q1 p4 q4
 obtain ⟨u1,u2,u3⟩:=ZsW s1 r1 s4 r4
 obtain ⟨n1,n2,n3,n4⟩:=ZsV hc hd wc wd
 obtain ⟨_,_,x3⟩:=ZmO t1 t3 n1 n3
 obtain ⟨_,_,y3⟩:=ZmO u1 u3 n1 n3
 obtain ⟨c1,c2,_,_⟩:=Zcf hc hc wc wc
 obtain ⟨d1,d2,_,_⟩:=Zcf hd hd wd wd
 have fc:=Zbe (Ziq hc wc).1.fin
 have fd:=Zbe (Ziq hd wd).1.fin
 obtain ⟨m1,o1⟩:=ZbU fc fc
 obtain ⟨m2,o2⟩:=ZbU fd fd
 obtain ⟨e1,e2⟩:=Zdn o1 o2
 rw [m1,m2] at e1
 change iv (sqD F c d) (F.low + F.low) = F.X c * F.X c + F.X d * F.X d at e1
 have g1:=Zjf (L':=F.low + (F.low + F.low)) l1 (by omega)
 have g2:=Zjf (L':=F.low + (F.low + F.low)) l2 (by omega)
 rw [i1,show (F.low + F.low - (F.low + (F.low + F.low))).toNat = F.sh by unfold Fm.sh; omega] at g1
 rw [i2,show (F.low + F.low - (F.low + (F.low + F.low))).toNat = F.sh by unfold Fm.sh; omega] at g2
 refine within F (Kd:=F.low + F.low) fx fy e2 (l1.mono (by omega)) (l2.mono (by omega)) ?_
 rw [e1,g1,g2]
 have h1:=ZAE p2 q2 t2
 have h2:=ZCF s2 r2 u2
 have h3:=ZAE c2 d2 n2
 have hS : (0 : Int) < ((2 ^ F.sh : Nat) : Int):=by have:=Nat.two_pow_pos F.sh; omega
 have sc:=Zjx (F.X c)
 have sd':=Zjx (F.X d)
 have hN : 0 < F.X c * F.X c + F.X d * F.X d:=by
  have:=(Ziq hc wc).2.1
  have h0:=Nat.two_pow_pos F.lo
  have : F.X c≠0:=by omega
  have : 0 < F.X c * F.X c:=by
   rcases Int.lt_or_gt_of_ne this with q | q
   ·exact Int.mul_pos_of_neg_of_neg q q
   ·exact Int.mul_pos q q
  omega
 have h3' : 8 * (F1 F * (F.X (fdN F c d) * ((2 ^ F.sh : Nat) : Int) - (F.X c * F.X c + F.X d * F.X d)).natAbs)≤17 * (F.X c * F.X c + F.X d * F.X d).natAbs:=by
  have e : (F.X c * F.X c + F.X d * F.X d).natAbs = (F.X c * F.X c).natAbs + (F.X d * F.X d).natAbs:=by omega
  rw [e]; exact h3
 have v1:=Ztz (Nat.le_trans (by decide) (Zse F)) hS n4 hN x3 h1 h3' (by omega)
 have v2:=Ztz (Nat.le_trans (by decide) (Zse F)) hS n4 hN y3 h2 h3' (by omega)
 have hnorm : ((F.X a * F.X c + F.X b * F.X d) * ((2 ^ F.sh : Nat) : Int) * ((F.X a * F.X c + F.X b * F.X d) * ((2 ^ F.sh : Nat) : Int)) + (F.X b * F.X c - F.X a * F.X d) * ((2 ^ F.sh : Nat) : Int) * ((F.X b * F.X c - F.X a * F.X d) * ((2 ^ F.sh : Nat) : Int))).natAbs = ((F.X a * F.X a + F.X b * F.X b) * (F.X c * F.X c + F.X d * F.X d)).natAbs * (2 ^ F.sh * 2 ^ F.sh):=by
  have n0:=ZAb (F.X a) (F.X b) (F.X c) (-F.X d)
  have z1 : F.X a * F.X c - F.X b * -F.X d = F.X a * F.X c + F.X b * F.X d:=by rw [Int.mul_neg]; omega
  have z2 : F.X a * -F.X d + F.X b * F.X c = F.X b * F.X c - F.X a * F.X d:=by rw [Int.mul_neg]; omega
  have z3 : -F.X d * -F.X d = F.X d * F.X d:=by rw [Int.neg_mul_neg]
  rw [z1,z2,z3] at n0
  have z4 : ∀ u v S : Int,u * S * (u * S) + v * S * (v * S) = (u * u + v * v) * (S * S):=fun u v S => by
   rw [Int.add_mul]; congr 1 <;> simp only [Int.mul_assoc,Int.mul_left_comm]
  rw [z4,n0,Int.natAbs_mul _ (((2 ^ F.sh : Nat) : Int) * _),← Int.natCast_mul,Int.natAbs_natCast]
 rw [hnorm]
 have tn:=Zzc (F.X a) (F.X b) (F.X c) (F.X d)
 rw [Int.natAbs_natCast] at v1 v2
 refine ZvN v1 v2 ?_ (by decide) (by decide)
 have q:=Nat.mul_le_mul_right (2 ^ F.sh * 2 ^ F.sh) tn
 have z5 : ∀ M S : Nat,M * S * (M * S) = M * M * (S * S):=fun M S => Nat.mul_mul_mul_comm ..
 rw [Nat.mul_assoc 2,Nat.add_mul] at q
 rw [Nat.add_comm ((F.X b * F.X c).natAbs),z5,z5]
 exact q
end
end Go.Cv
namespace Go.Cv
variable {G : Nat→Option (List AV)} {T : Tbl} {g : Nat}
section
variable (J : Al G T g) (hM : HasM g T) (hL : HasL g T) {F : Fm} {a b c d : Nat} (hz : Zw F (a,b)) (hw : Zw F (c,d)) (iz : inZ F (a,b)) (iw : inZ F (c,d))
 include J hM hL hz hw iz iw
theorem ZDc (k n : Nat) : Ans F Zai.res Zai.body [(1,zA a b),(2,zA c d)] k (zA (fdX F a b c d) (fdY F a b c d)) 0 n n G T:=by
 obtain ⟨p1,_,_,p4⟩:=Zcf hz.1 hw.1 iz.1 iw.1
 obtain ⟨q1,_,_,q4⟩:=Zcf hz.2 hw.2 iz.2 iw.2
 obtain ⟨r1,_,_,r4⟩:=Zcf hz.1 hw.2 iz.1 iw.2
 obtain ⟨s1,_,_,s4⟩:=Zcf hz.2 hw.1 iz.2 iw.1
 obtain ⟨c1,_,_,c4⟩:=Zcf hw.1 hw.1 iw.1 iw.1
 obtain ⟨d1,_,_,d4⟩:=Zcf hw.2 hw.2 iw.2 iw.2
 obtain ⟨t1,_,t3⟩:=ZqL p1 q1 p4 q4
 obtain ⟨u1,_,u3⟩:=ZsW s1 r1 s4 r4
 obtain ⟨n1,_,n3,_⟩:=ZsV hw.1 hw.2 iw.1 iw.2
 obtain ⟨x1,x2,_⟩:=ZmO t1 t3 n1 n3
 obtain ⟨y1,y2,_⟩:=ZmO u1 u3 n1 n3
 exact ZEi J hM hL F hz hw ⟨iz,iw⟩ x1 y1 (ZvH hM F (Zph hw.1 hw.1 c1.fin) (Zph hw.2 hw.2 d1.fin) (ZAZ c1.lt d1.lt n1.fin) (Zph hz.1 hw.1 p1.fin) (Zph hz.2 hw.2 q1.fin) (ZAZ p1.lt q1.lt t1.fin) (Zph hz.2 hw.1 s1.fin) (Zph hz.1 hw.2 r1.fin) (ZEZ s1.lt r1.lt u1.fin) (ZBa t1.lt n1.lt x2) (ZBa u1.lt n1.lt y2))
end
theorem fd820 (a b c d : AV) : fieldA true 0 2 (.agg [a,b,c,d]) = some (.agg [a,b]):=rfl
theorem trB : type_of% (And.intro (And.intro (And.intro @ZBU @Zuc) (And.intro @ZAY @Zub)) (And.intro (And.intro @ZxG @Zxk) (And.intro @ZtI (@Zpd (Env × Heap))))):=And.intro (And.intro (And.intro @ZBU @Zuc) (And.intro @ZAY @Zub)) (And.intro (And.intro @ZxG @Zxk) (And.intro @ZtI (@Zpd (Env × Heap))))
end Go.Cv
namespace Go.Cv
variable {G : Nat→Option (List AV)} {T : Tbl} {g : Nat}
set_option maxHeartbeats 16000000 in
theorem ZgH (J : Al G T g) (hM : HasM g T) (hL : HasL g T) {f : Int} {a b c d : Nat} (ha : a < 18446744073709551616) (hb : b < 18446744073709551616) (hc : c < 18446744073709551616) (hd : d < 18446744073709551616) : run G T 317 [.int .u8 f,zA a b,zA c d] = some (.bool true):=by
 rw [Zab G T hM.ZgH]
 have hK:=Zlh (G:=G) J hM hL
 have hnil : (Heap.nil : Heap) = ⟨[],[]⟩:=rfl
 have c1:=Zbi G T hM.fast_New
 have c2:=Zbi G T hM.fast_Engine_Div
 have c5:=Zbi G T hM.fast_Engine_Falls
 by_cases hf : f = 1∨f = 2
 ·obtain ⟨F,rfl⟩:=ZHc hf
  have s1:=Zma J F
  have n1:=ZwZ (G:=G) hM F (bs:=[zblk (a,b),zblk (c,d)])
  have g1:=ZsI J F ha hb hc hd
  by_cases hzw : Zw F (a,b)∧Zw F (c,d)
  ·obtain ⟨hz,hw⟩:=hzw
   rw [if_pos ⟨hz,hw⟩] at g1
   have i1:=Znr J hM F (Zbm hz.1) (Zbm hz.2)
   have i2:=Znr J hM F (Zbm hw.1) (Zbm hw.2)
   change _ = some (AV.bool (decide (inZ F (a,b)))) at i1
   change _ = some (AV.bool (decide (inZ F (c,d)))) at i2
   by_cases hin : inZ F (a,b)∧inZ F (c,d)
   ·obtain ⟨iz,iw⟩:=hin
    rw [decide_eq_true iz] at i1
    rw [decide_eq_true iw] at i2
    obtain ⟨B,m1,hk,e1⟩:=(ZDc J hM hL hz hw iz iw 2 0).use (bs:=[zblk (a,b),zblk (c,d),engB F.u 0]) rfl
    have p0:=fun L => Zpi (e1 0 _ (by decide) rfl) L
    have p1:=fun L => Zpi (e1 1 _ (by decide) rfl) L
    have fl:=Znc (G:=G) hL hM hk
    obtain ⟨⟨x1,x2⟩,y1,y2⟩:=Zyn hz.1 hz.2 hw.1 hw.2 iz.1 iz.2 iw.1 iw.2
    have wi:=ZvO hz.1 hz.2 hw.1 hw.2 iz.1 iz.2 iw.1 iw.2
    have fa:=(Ziq hz.1 iz.1).1.fin
    have fb:=(Ziq hz.2 iz.2).1.fin
    have fc:=(Ziq hw.1 iw.1).1.fin
    have fd:=(Ziq hw.2 iw.2).1.fin
    obtain ⟨u,v,z1,pr⟩:=ZhP J hM F hz.1 hz.2 hw.1 hw.2 fa fb fc fd
    have g2:=ZsH J F (Zbm x1) (Zbm y1)
    rw [if_pos ⟨x1,y1⟩] at g2
    have fi:=Zhx J F x1 y1
    rw [decide_eq_true ⟨x2,y2⟩] at fi
    have br : Bd (addD (tm F a c false).1 (tm F b d false).1) 40000:=(ZeC (ZgL F a c false).1 (ZgL F b d false).1).mono (by decide)
    have bi : Bd (addD (tm F b c false).1 (tm F a d true).1) 40000:=(ZeC (ZgL F b c false).1 (ZgL F a d true).1).mono (by decide)
    have bs : Bd (sqD F c d) 40000:=(ZeC (Zcw (Zta F c) (Zta F c)) (Zcw (Zta F d) (Zta F d))).mono (by decide)
    have wt:=Zke J hM F (z1:=u) (z2:=v) (z3:=z1) (k:=12) x1 y1 x2 y2 br bi bs (by decide)
    rw [decide_eq_true wi] at wt
    clear wi br bi bs fa fb fc fd e1 hk x1 x2 y1 y2 ha hb hc hd hf hz hw iz iw
    unfold zblk at *
    generalize fdX F a b c d = x at *
    generalize fdY F a b c d = y at *
    generalize addD (tm F a c false).1 (tm F b d false).1 = R1 at *
    generalize addD (tm F b c false).1 (tm F a d true).1 = R2 at *
    generalize sqD F c d = R3 at *
    generalize F.u = fu at *
    simp only [zA,DyA,A3,cast0,List.cons_append,List.nil_append,List.length_cons,List.length_nil,Nat.zero_add,show ((0 : Nat) : Int) = 0 from rfl,show ((1 : Nat) : Int) = 1 from rfl,show ((12 : Nat) : Int) = 12 from rfl] at *
    repeat' (first|simp (maxSteps:=9^7) only [seval,exC,Zax,fcB,gbB,ZzQ,ZzP,gaB,trB,List.getElem?_cons_succ,List.getElem?_cons_zero,c1,c2,c5,n1,m1,fl,p0,p1,s1,i1,i2,g1,g2,fi,pr,wt,hK,ZuW,Zvn,and_self,ZsO,hnil]|simp (maxSteps:=9^7) (disch:=first|with_reducible assumption|omega) only [dxB]|(simp only [kdB];split)|(simp only [kvB];split))
   ·have x1:=ZnS J F (md:=1) (by decide) hz.1 hz.2 hw.1 hw.2
    have x2:=ZoC J F (md:=1) (by decide) hz.1 hz.2 hw.1 hw.2
    obtain ⟨B,m1,hk,e1⟩:=(ZCy J hM hL F (k:=2) (n:=0) hz hw hin (by decide) x1).use (bs:=[zblk (a,b),zblk (c,d),engB F.u 0]) rfl
    have p0:=fun L => Zpi (e1 0 _ (by decide) rfl) L
    have p1:=fun L => Zpi (e1 1 _ (by decide) rfl) L
    have fl:=Znc (G:=G) hL hM hk
    have hor : decide (inZ F (a,b)) = false∨decide (inZ F (a,b)) = true∧decide (inZ F (c,d)) = false:=by
     by_cases q : inZ F (a,b)
     ·exact Or.inr ⟨decide_eq_true q,decide_eq_false (fun r => hin ⟨q,r⟩)⟩
     ·exact Or.inl (decide_eq_false q)
    clear e1 hk ha hb hc hd hf hz hw hin x1
    unfold zblk at *
    generalize divZ F 1 a b c d = Z at *
    generalize decide (inZ F (a,b)) = iz at *
    generalize decide (inZ F (c,d)) = iw at *
    generalize F.u = fu at *
    simp only [zA,zrA,cast0,List.cons_append,List.nil_append,List.length_cons,List.length_nil,Nat.zero_add,show ((0 : Nat) : Int) = 0 from rfl,show ((0 + 1 : Nat) : Int) = 1 from rfl,show ((1 : Nat) : Int) = 1 from rfl] at *
    rcases hor with rfl | ⟨rfl,rfl⟩
    all_goals repeat' (first|simp (maxSteps:=9^7) only [seval,exC,Zax,fcB,gbB,ZzQ,ZzP,gaB,trB,fd820,List.getElem?_cons_succ,List.getElem?_cons_zero,c1,c2,c5,n1,m1,fl,p0,p1,s1,i1,i2,g1,x2,hK,ZuW,Zvn,and_self,ZsO,hnil]|simp (maxSteps:=9^7) (disch:=first|with_reducible assumption|omega) only [dxB]|(simp only [kdB];split)|(simp only [kvB];split))
  ·rw [if_neg (show ¬ ((a < 2 * F.sg∧b < 2 * F.sg)∧c < 2 * F.sg∧d < 2 * F.sg) from hzw)] at g1
   obtain ⟨B,m1,hk,e1⟩:=(ZCx J hM hL F (k:=2) (n:=0) ha hb hc hd hzw).use (bs:=[zblk (a,b),zblk (c,d),engB F.u 0]) rfl
   have p0:=fun L => Zpi (e1 0 _ (by decide) rfl) L
   have p1:=fun L => Zpi (e1 1 _ (by decide) rfl) L
   have fl:=Znc (G:=G) hL hM hk
   clear e1 hk ha hb hc hd hf hzw
   unfold zblk at *
   generalize F.u = fu at *
   simp only [zA,cast0,List.cons_append,List.nil_append,List.length_cons,List.length_nil,Nat.zero_add,show ((0 : Nat) : Int) = 0 from rfl] at *
   repeat' (first|simp (maxSteps:=9^7) only [seval,exC,Zax,fcB,gbB,ZzQ,ZzP,gaB,c1,c2,c5,n1,m1,fl,p0,p1,s1,g1,hK,ZuW,Zvn,and_self,ZsO,hnil]|simp (maxSteps:=9^7) (disch:=first|with_reducible assumption|omega) only [dxB]|(simp only [kdB];split)|(simp only [kvB];split))
 ·have s1:=Znp J (f:=f)
  rw [decide_eq_false hf] at s1
  have n1:=ZvE (G:=G) hM hf (bs:=[zblk (a,b),zblk (c,d)])
  clear hf
  unfold zblk at *
  simp only [zA,List.cons_append,List.nil_append] at *
  repeat' (first|simp (maxSteps:=9^7) only [seval,exC,Zax,fcB,gbB,ZzQ,ZzP,gaB,c1,n1,s1,hK,hnil]|simp (maxSteps:=9^7) (disch:=first|with_reducible assumption|omega) only [dxB]|(simp only [kdB];split)|(simp only [kvB];split))
end Go.Cv
