/-
 A part of the proof of the statements of this seat (texts that the law's own text leans on): no condition.
-/
import Derived.Test.YtddmoldiopnifaaGreatDoorM12
import Derived.Test.YtddmoldiopnifaaGreatDoorM11
import Derived.Test.YtddmoldiopnifaaGreatDoorM9
import Derived.Test.YtddmoldiopnifaaGreatDoorM7
set_option linter.unusedVariables false
set_option linter.unusedSimpArgs false
namespace Go.Cv
variable {G : Nat→Option (List AV)} {T : Tbl} {g : Nat}
def shN (m : Nat) (n : Int) : Nat:=if 0≤n then m * 2 ^ n.toNat else m / 2 ^ (-n).toNat
def shB (m : Nat) (n : Int) : Bool:=if 0≤n then false else !decide (m % 2 ^ (-n).toNat = 0)
theorem Zut {m : Nat} (h : m≠0) {n : Int} (hn : 0≤(blen m : Int) + n) : (blen (shN m n) : Int) = blen m + n:=by
 unfold shN; split
 ·rw [Zap h]; omega
 ·rw [Zam]; omega
theorem Zrh (J : Al G T g) {z : Bool} {m : Nat} {n : Int} (hm : mayL (dl m) = true) (h1 : (blen m : Int) + n≤131072) (h2 : -1099511627776 < n∧n < 1099511627776) :
  ∃ z',run G T 50 [D z (dl m),.int .i64 n] = some (.tup [D z' (dl (shN m n)),.bool (shB m n),.int .i64 0]):=by
 unfold shN shB
 by_cases h : 0≤n
 ·obtain ⟨z',hz⟩:=ZdD J (z:=z) (a:=m) (n:=n.toNat) hm (by omega) (by omega)
  rw [if_pos h,if_pos h]
  rw [show ((n.toNat : Nat) : Int) = n by omega] at hz
  exact ⟨z',hz⟩
 ·obtain ⟨z',hz⟩:=ZeX J (z:=z) (a:=m) (n:=(-n).toNat) hm (by omega) (by omega)
  rw [if_neg h,if_neg h]
  rw [show -(((-n).toNat : Nat) : Int) = n by omega] at hz
  exact ⟨z',hz⟩
theorem ZjM {k r M : Nat} (h1 : 2 ^ k * 2 ^ k≤M) (h2 : M < (r + 1) * (r + 1)) : k < blen r:=by
 rw [ZaA]
 rcases Nat.lt_or_ge r (2 ^ k) with h | h
 ·have:=Nat.mul_le_mul (show r + 1≤2 ^ k by omega) (show r + 1≤2 ^ k by omega)
  omega
 ·exact h
theorem Zzo (x : Int) : andI .i64 x 1 = x % 2:=by
 rw [Zpn]
 unfold andI0
 have h1 : (BitVec.ofInt IntKind.i64.bits x &&& BitVec.ofInt IntKind.i64.bits 1).toNat = (x % 18446744073709551616).toNat % 2:=by
  rw [BitVec.toNat_and]
  rw [show (BitVec.ofInt IntKind.i64.bits 1).toNat = 1 from rfl,BitVec.toNat_ofInt]
  rw [show ((2 : Nat) ^ IntKind.i64.bits : Nat) = 18446744073709551616 from rfl]
  exact Zpp _
 rw [h1]
 rw [Zad (by omega)]
 omega
set_option maxHeartbeats 2000000 in
theorem Znw (J : Al G T g) {z : Bool} {d : Dy} {k S : Nat} {n c : Int} {r : Nat} (dd : mayD d.n (dl d.m) d.e = true) (h0 : d.m≠0) (hs : d.n = false)
  (hk : 1≤k∧k≤8192) (hn : n = 2 * k + 2 - blen d.m + (d.e - (2 * k + 2 - blen d.m)) % 2) (hc : d.e - n = 2 * c)
  (r1 : r * r≤shN d.m n) (r2 : shN d.m n < (r + 1) * (r + 1)) (hS : blen r = k + S) :
  ∃ z',run G T 43 [DyA z d,.int .i64 (k : Int)] = some (.tup [DyA z' (mkD false (r / 2 ^ S) (c + S)),
   .bool (!decide (r % 2 ^ S = 0) || (shB d.m n || !decide (r * r = shN d.m n))),.int .i64 0]):=by
 obtain ⟨f1,f2,f3,f4,f5⟩:=ZcN dd
 obtain ⟨ng,m,e⟩:=d
 simp only at *
 subst hs
 have hbm:=Zee f1
 have hbp:=ZaS h0
 have hbs:=Zut h0 (n:=n) (by omega)
 have hrk : k < blen r:=ZjM (k:=k) (r:=r) (M:=shN m n) (by
  have:=Zbo (n:=shN m n) (by intro hc; rw [hc,Zal] at hbs; omega)
  rw [← Nat.pow_add]
  exact Nat.le_trans (Nat.pow_le_pow_right (by decide) (by omega)) this) r2
 have b0:=Zdl J false z (ZaC m) e
 rw [dd] at b0
 have a0:=Zkh J hk
 have l1:=Zgu J (z:=z) f1
 obtain ⟨z1,h1⟩:=Zrh J (z:=z) (m:=m) (n:=n) f1 (by omega) (by omega)
 have mM : mayL (dl (shN m n)) = true:=Zau (by omega)
 obtain ⟨r',z2,h2,q1,q2⟩:=ZmR J (z:=z1) (a:=shN m n) mM
 have hrr : r' = r:=Zoq q1 q2 r1 r2
 subst hrr
 have hbr : blen r'≤blen (shN m n):=ZaF (Nat.le_trans (Nat.le_mul_self r') r1)
 have mr : mayL (dl r') = true:=Zau (by omega)
 obtain ⟨z5,h4⟩:=Zlm J (n:=false) (z:=z2) (more:=shB m n || !decide (r' * r' = shN m n)) (q:=r') (k:=k) (s:=S) (e:=c) mr hS (by omega) (by omega)
 have c1 : ¬ ((dl m).length : Int) = 0:=fun hc => h0 (Zaz.1 (by omega))
 refine ⟨z5,?_⟩
 rw [Zac G T J.C.Znw]
 simp only [DyA,A3] at *
 have wa : IntKind.i64.wrap (2 * (k : Int)) = 2 * (k : Int):=Zad (by omega)
 have wb : IntKind.i64.wrap (2 * (k : Int) + 2) = 2 * (k : Int) + 2:=Zad (by omega)
 have wc : IntKind.i64.wrap (2 * (k : Int) + 2 - (blen m : Int)) = 2 * (k : Int) + 2 - (blen m : Int):=Zad (by omega)
 have wd : IntKind.i64.wrap (e - (2 * (k : Int) + 2 - (blen m : Int))) = e - (2 * (k : Int) + 2 - (blen m : Int)):=Zad (by omega)
 have we : IntKind.i64.wrap (e - n) = e - n:=Zad (by omega)
 have wt : IntKind.i64.wrap ((e - n).tdiv 2) = c:=by rw [hc,Int.mul_tdiv_cancel_left _ (by decide)]; exact Zad (by omega)
 have wx:=Zzo (e - (2 * (k : Int) + 2 - (blen m : Int)))
 have hpar : ((e - (2 * (k : Int) + 2 - (blen m : Int))) % 2 = 0∧n = 2 * (k : Int) + 2 - (blen m : Int)) ∨
   ((e - (2 * (k : Int) + 2 - (blen m : Int))) % 2 = 1∧IntKind.i64.wrap (2 * (k : Int) + 2 - (blen m : Int) + 1) = n):=by
  rcases Int.emod_two_eq (e - (2 * (k : Int) + 2 - (blen m : Int))) with hp | hp
  ·left; exact ⟨hp,by omega⟩
  ·right; refine ⟨hp,?_⟩; rw [Zad (by omega)]; omega
 clear hbs hrk hbr mr mM hS r1 r2 q1 q2 f1 f2 f3 f4 f5 dd hbm hbp hn
 generalize shB m n = o1 at *
 generalize decide (r' * r' = shN m n) = o2 at *
 generalize decide (r' % 2 ^ S = 0) = o at *
 generalize shN m n = M at *
 rcases hpar with ⟨hp,hn⟩ | ⟨hp,hn⟩
 ·rw [hp] at wx
  rw [hn] at h1 we wt
  cases o1 <;> cases o2 <;> (simp only [Bool.false_or,Bool.true_or,Bool.not_true,Bool.not_false,Bool.or_false,Bool.or_true] at h4 ⊢; repeat' (first|simp (maxSteps:=9^7) only [seval,exC,Zgd,b0,a0,c1,l1,wa,wb,wc,wd,we,wt,wx,h1,h2,h4]|simp (maxSteps:=9^7) (disch:=first|with_reducible assumption|omega) only [dxB]|(simp only [kdB];split)|(simp only [kvB];split)); try rfl)
 ·rw [hp] at wx
  cases o1 <;> cases o2 <;> (simp only [Bool.false_or,Bool.true_or,Bool.not_true,Bool.not_false,Bool.or_false,Bool.or_true] at h4 ⊢; repeat' (first|simp (maxSteps:=9^7) only [seval,exC,Zgd,b0,a0,c1,l1,wa,wb,wc,wd,we,wt,wx,hn,h1,h2,h4]|simp (maxSteps:=9^7) (disch:=first|with_reducible assumption|omega) only [dxB]|(simp only [kdB];split)|(simp only [kvB];split)); try rfl)
theorem ZAp (x : Int) : (x.tmod 2 = 0↔x % 2 = 0):=by
 constructor
 ·intro h; exact Int.emod_eq_zero_of_dvd (Int.dvd_of_tmod_eq_zero h)
 ·intro h; exact Int.tmod_eq_zero_of_dvd (Int.dvd_of_emod_eq_zero h)
set_option maxHeartbeats 2000000 in
theorem Zmr (J : Al G T g) {z : Bool} {d : Dy} {k S N r : Nat} {c : Int} (h0 : d.m≠0) (lb : blen d.m < 1048576) (hk0 : 0 < k) (hk : k < 8192) (he : -17179869184 < d.e∧d.e < 17179869184)
  (hN : (N : Int) = max 0 (2 * (k : Int) + 2 - blen d.m) + (d.e - max 0 (2 * (k : Int) + 2 - blen d.m)) % 2) (hc : d.e - N = 2 * c)
  (r1 : r * r≤d.m * 2 ^ N) (r2 : d.m * 2 ^ N < (r + 1) * (r + 1)) (hS : blen r = k + S) :
  ∃ z',run G T 44 [DyA z d,.int .i64 (k : Int)] = some (.tup [DyA z' (mkD false (r / 2 ^ S) (c + S)),.bool (!decide (r % 2 ^ S = 0) || !decide (r * r = d.m * 2 ^ N))]):=by
 obtain ⟨ng,m,e⟩:=d
 simp only at *
 have hbp:=ZaS h0
 have hbN:=Zap h0 N
 have hrk : k < blen r:=ZjM (k:=k) (r:=r) (M:=m * 2 ^ N) (by
  have:=Zbo (n:=m * 2 ^ N) (by intro hc; rw [hc,Zal] at hbN; omega)
  rw [← Nat.pow_add]
  exact Nat.le_trans (Nat.pow_le_pow_right (by decide) (by omega)) this) r2
 have hbr : blen r≤blen (m * 2 ^ N):=ZaF (Nat.le_trans (Nat.le_mul_self r) r1)
 have d1:=Zaa m
 have d2:=Zaa (m * 2 ^ N)
 have d3:=Zaa r
 have l1:=Zeg (G:=G) J (z:=z) (a:=m) (by omega)
 obtain ⟨z1,h1⟩:=ZfQ (G:=G) J (z:=z) (a:=m) (n:=N) (by omega) (by omega)
 obtain ⟨r',z2,h2,q1,q2⟩:=Zmq (G:=G) J (z:=z1) (a:=m * 2 ^ N) (by omega)
 have hrr : r' = r:=Zoq q1 q2 r1 r2
 subst hrr
 obtain ⟨z4,h3⟩:=Zbv (G:=G) J (n:=false) (z:=z2) (a:=r') (e:=c) (by omega) (by omega)
 obtain ⟨z5,h4⟩:=ZzL (G:=G) J (n:=false) (z:=z4) (Q:=r') (k:=k) (S:=S) (e:=c) (by omega) hS (by omega) hk0 hk (by omega)
 refine ⟨z5,?_⟩
 rw [Zac G T J.C.Zmr]
 simp only [DyA,A3] at *
 have wa : IntKind.i64.wrap (2 * (k : Int)) = 2 * (k : Int):=Zad (by omega)
 have wb : IntKind.i64.wrap (2 * (k : Int) + 2) = 2 * (k : Int) + 2:=Zad (by omega)
 have wc : IntKind.i64.wrap (2 * (k : Int) + 2 - (blen m : Int)) = 2 * (k : Int) + 2 - (blen m : Int):=Zad (by omega)
 have we : IntKind.i64.wrap (e - (N : Int)) = e - N:=Zad (by omega)
 have wt : IntKind.i64.wrap ((e - (N : Int)).tdiv 2) = c:=by rw [hc,Int.mul_tdiv_cancel_left _ (by decide)]; exact Zad (by omega)
 have hM : ∃ P : Int,P = max 0 (2 * (k : Int) + 2 - (blen m : Int)):=⟨_,rfl⟩
 obtain ⟨P,hP⟩:=hM
 rw [← hP] at hN
 have wd : IntKind.i64.wrap (e - P) = e - P:=Zad (by omega)
 have wx:=ZAp (e - P)
 have hpar : ((e - P).tmod 2 = 0∧(N : Int) = P)∨(¬ (e - P).tmod 2 = 0∧IntKind.i64.wrap (P + 1) = N):=by
  rcases Int.emod_two_eq (e - P) with hp | hp
  ·left; exact ⟨wx.2 hp,by omega⟩
  ·right; refine ⟨fun h => ?_,?_⟩
   ·have:=wx.1 h; omega
   ·rw [Zad (by omega)]; omega
 have hPP : (2 * (k : Int) + 2 - (blen m : Int) < 0∧P = 0)∨(¬ 2 * (k : Int) + 2 - (blen m : Int) < 0∧P = 2 * (k : Int) + 2 - (blen m : Int)):=by omega
 clear wx hN hbp hbN hrk hbr d1 d2 d3 r1 r2 q1 q2 hS lb hP
 generalize decide (r' * r' = m * 2 ^ N) = o2 at *
 generalize decide (r' % 2 ^ S = 0) = o at *
 rcases hPP with ⟨c1,rfl⟩ | ⟨c1,hPe⟩
 ·rcases hpar with ⟨hp,hn⟩ | ⟨hp,hn⟩
  ·rw [hn] at h1 we wt
   cases o <;> cases o2 <;> (repeat' (first|simp (maxSteps:=9^7) only [seval,exC,Zcx,l1,c1,wa,wb,wc,wd,we,wt,hp,h1,h2,h3,h4]|simp (maxSteps:=9^7) (disch:=first|with_reducible assumption|omega) only [dxB]|(simp only [kdB];split)|(simp only [kvB];split)); all_goals rfl)
  ·have w0 : IntKind.i64.wrap (0 + 1) = 1:=rfl
   have w1 : IntKind.i64.wrap 1 = 1:=rfl
   have hN1 : N = 1:=by omega
   subst hN1
   rw [show ((1 : Nat) : Int) = 1 from rfl] at h1 we wt
   clear hn
   cases o <;> cases o2 <;> (repeat' (first|simp (maxSteps:=9^7) only [seval,exC,Zcx,l1,c1,wa,wb,wc,wd,we,wt,hp,w0,w1,h1,h2,h3,h4]|simp (maxSteps:=9^7) (disch:=first|with_reducible assumption|omega) only [dxB]|(simp only [kdB];split)|(simp only [kvB];split)); all_goals rfl)
 ·rw [hPe] at wd hpar
  rcases hpar with ⟨hp,hn⟩ | ⟨hp,hn⟩
  ·rw [hn] at h1 we wt
   cases o <;> cases o2 <;> (repeat' (first|simp (maxSteps:=9^7) only [seval,exC,Zcx,l1,c1,wa,wb,wc,wd,we,wt,hp,h1,h2,h3,h4]|simp (maxSteps:=9^7) (disch:=first|with_reducible assumption|omega) only [dxB]|(simp only [kdB];split)|(simp only [kvB];split)); all_goals rfl)
  ·cases o <;> cases o2 <;> (repeat' (first|simp (maxSteps:=9^7) only [seval,exC,Zcx,l1,c1,wa,wb,wc,wd,we,wt,hp,hn,h1,h2,h3,h4]|simp (maxSteps:=9^7) (disch:=first|with_reducible assumption|omega) only [dxB]|(simp only [kdB];split)|(simp only [kvB];split)); all_goals rfl)
def sW (F : Fm) (md : Int) (neg : Bool) (Q : Nat) (more : Bool) (E : Int) : Nat × Nat :=
 wordOf F md neg (rdN md neg Q more (F.eOf (E + blen Q) - E).toNat).1 (rdN md neg Q more (F.eOf (E + blen Q) - E).toNat).2 (F.eOf (E + blen Q)) (E + blen Q) (rdN md neg Q more (blen Q - F.fr - 1)).1
theorem Zqd (F : Fm) (md : Int) (neg : Bool) {w : Nat} (more : Bool) (top : Int) (hw : blen w = 64) : partW F md neg w more top = sW F md neg w more (top - 64):=by
 unfold partW sW
 have h1 : top - 64 + (blen w : Int) = top:=by omega
 rw [h1,show F.eOf top - top + 64 = F.eOf top - (top - 64) by omega,show blen w - F.fr - 1 = 63 - F.fr by omega]
theorem ZfT (F : Fm) (md : Int) (neg : Bool) {Q j : Nat} (more : Bool) (E : Int) (h : F.fr + 2 + j≤blen Q) :
  sW F md neg (Q / 2 ^ j) (more || decide (Q % 2 ^ j≠0)) (E + j) = sW F md neg Q more E:=by
 unfold sW
 have hb : (blen (Q / 2 ^ j) : Int) = blen Q - j:=by rw [Zam]; omega
 have hb' : blen (Q / 2 ^ j) = blen Q - j:=by omega
 have e1 : E + j + (blen (Q / 2 ^ j) : Int) = E + blen Q:=by omega
 have hE : E + (blen Q : Int) - F.fr - 1≤F.eOf (E + blen Q):=by unfold Fm.eOf; omega
 have r1:=Zoe md neg Q more j (F.eOf (E + blen Q) - (E + j)).toNat (by omega)
 have r2:=Zoe md neg Q more j (blen Q - j - F.fr - 1) (by omega)
 rw [show j + (F.eOf (E + blen Q) - (E + j)).toNat = (F.eOf (E + blen Q) - E).toNat by omega] at r1
 rw [show j + (blen Q - j - F.fr - 1) = blen Q - F.fr - 1 by omega] at r2
 rw [e1,hb',r1,r2]
theorem ZqU {M : Nat} (h : M≠0) (t : Nat) : headN (M * 2 ^ t) = headN M∧behindN (M * 2 ^ t) = behindN M:=by
 unfold headN behindN
 rw [Zap h]
 by_cases h1 : blen M≤64
 ·by_cases h2 : blen M + t≤64
  ·rw [if_pos h1,if_pos h2,if_pos h1,if_pos h2,Nat.mul_assoc,← Nat.pow_add,show t + (64 - (blen M + t)) = 64 - blen M by omega]
   exact ⟨rfl,rfl⟩
  ·rw [if_pos h1,if_neg h2,if_pos h1,if_neg h2]
   rw [ZiB (by omega),ZkL (by omega),show t - (blen M + t - 64) = 64 - blen M by omega]
   exact ⟨rfl,rfl⟩
 ·rw [if_neg h1,if_neg (by omega),if_neg h1,if_neg (by omega)]
  rw [ZgZ (by omega),Zjv (by omega),show blen M + t - 64 - t = blen M - 64 by omega]
  have hp:=Nat.two_pow_pos t
  refine ⟨rfl,decide_eq_decide.2 ?_⟩
  constructor
  ·intro h3 h4; exact h3 (by rw [h4,Nat.zero_mul])
  ·intro h3 h4
   rcases Nat.mul_eq_zero.1 h4 with h5 | h5
   ·exact h3 h5
   ·omega
theorem ZDJ (F : Fm) (md : Int) (neg : Bool) {M : Nat} (E : Int) (h : F.fr + 2≤blen M) : sW F md neg (headN M) (behindN M) (E + blen M - 64) = sW F md neg M false E:=by
 have hF:=ZaM F
 unfold headN behindN
 by_cases h1 : blen M≤64
 ·rw [if_pos h1,if_pos h1]
  have hm : M≠0:=by rintro rfl; rw [Zal] at h; omega
  have:=ZfT F md neg (Q:=M * 2 ^ (64 - blen M)) (j:=64 - blen M) false (E + blen M - 64) (by rw [Zap hm]; omega)
  rw [Nat.mul_div_cancel _ (Nat.two_pow_pos _),Nat.mul_mod_left,show E + (blen M : Int) - 64 + ((64 - blen M : Nat) : Int) = E by omega] at this
  rw [← this]; rfl
 ·rw [if_neg h1,if_neg h1]
  have:=ZfT F md neg (Q:=M) (j:=blen M - 64) false E (by omega)
  rw [← this,Bool.false_or,show E + ((blen M - 64 : Nat) : Int) = E + blen M - 64 by omega]
theorem Zoo (F : Fm) (md : Int) (neg : Bool) {M : Nat} (E : Int) (h : F.fr + 2≤blen M) : rndW F md (mkD neg M E) = sW F md neg M false E:=by
 have hm : M≠0:=by rintro rfl; rw [Zal] at h; omega
 have t1:=(ZcY hm).1
 have hb:=Zam M (tz M)
 have hz:=Zfu hm
 have hm' : M / 2 ^ tz M≠0:=by intro hc; rw [hc,Zal] at hb; omega
 have h1:=ZzZ F md (d:=mkD neg M E) (by rw [Zar hm]; exact hm')
 rw [← h1,Zar hm]
 simp only
 obtain ⟨e1,e2⟩:=ZqU hm' (tz M)
 rw [← t1] at e1 e2
 rw [← e1,← e2,Zqd _ _ _ _ _ (Zml hm),show E + (tz M : Int) + (blen (M / 2 ^ tz M) : Int) - 64 = E + blen M - 64 by omega,ZDJ F md neg E h]
theorem Zyr (F : Fm) (md : Int) (neg : Bool) {M j : Nat} (E : Int) (hj : 0 < j) (h : F.fr + 2≤blen M) : sW F md neg (M * 2 ^ j + 1) false (E - j) = sW F md neg M true E:=by
 have hm : M≠0:=by rintro rfl; rw [Zal] at h; omega
 have hp : 1 < 2 ^ j:=Nat.one_lt_two_pow (by omega)
 have d1 : (M * 2 ^ j + 1) / 2 ^ j = M:=by
  rw [Nat.mul_comm,Nat.mul_add_div (by omega),Nat.div_eq_of_lt hp,Nat.add_zero]
 have d2 : (M * 2 ^ j + 1) % 2 ^ j = 1:=by
  rw [Nat.mul_comm,Nat.mul_add_mod,Nat.mod_eq_of_lt hp]
 have hb:=Zam (M * 2 ^ j + 1) j
 rw [d1] at hb
 have:=ZfT F md neg (Q:=M * 2 ^ j + 1) (j:=j) false (E - j) (by omega)
 rw [d1,d2,show E - (j : Int) + j = E by omega] at this
 rw [← this]; rfl
theorem ZBN (F : Fm) (md : Int) (neg : Bool) {a b N j : Nat} (E : Int) (hb : b≠0) (h : F.fr + 2≤blen (a * 2 ^ N / b)) :
  sW F md neg (a * 2 ^ (N + j) / b) (!decide (a * 2 ^ (N + j) % b = 0)) (E - j) = sW F md neg (a * 2 ^ N / b) (!decide (a * 2 ^ N % b = 0)) E:=by
 have hp:=Nat.two_pow_pos j
 have e0 : a * 2 ^ (N + j) = a * 2 ^ N * 2 ^ j:=by rw [Nat.pow_add,Nat.mul_assoc]
 rw [e0]
 generalize a * 2 ^ N = A at *
 have e1 : A * 2 ^ j / b / 2 ^ j = A / b:=by rw [Nat.div_div_eq_div_mul,Nat.mul_div_mul_right _ _ hp]
 have hbl:=Zam (A * 2 ^ j / b) j
 rw [e1] at hbl
 have h2:=ZfT F md neg (Q:=A * 2 ^ j / b) (j:=j) (!decide (A * 2 ^ j % b = 0)) (E - j) (by omega)
 rw [e1,show E - (j : Int) + j = E by omega] at h2
 rw [← h2]
 congr 1
 have e3 : A * 2 ^ j % (b * 2 ^ j) = A % b * 2 ^ j:=Nat.mul_mod_mul_right ..
 rw [Nat.mod_mul] at e3
 have key : A % b = 0↔(A * 2 ^ j % b = 0∧A * 2 ^ j / b % 2 ^ j = 0):=by
  constructor
  ·intro h3
   rw [h3,Nat.zero_mul] at e3
   have h4 : A * 2 ^ j % b = 0:=by omega
   rw [h4,Nat.zero_add] at e3
   refine ⟨h4,?_⟩
   rcases Nat.mul_eq_zero.1 e3 with h5 | h5
   ·exact absurd h5 hb
   ·exact h5
  ·rintro ⟨h3,h4⟩
   rw [h3,h4,Nat.mul_zero,Nat.add_zero] at e3
   rcases Nat.mul_eq_zero.1 e3.symm with h5 | h5
   ·exact h5
   ·omega
 rw [Bool.eq_iff_iff]
 simp only [Bool.or_eq_true,Bool.not_eq_true',decide_eq_true_eq,decide_eq_false_iff_not,ne_eq,key]
 by_cases h5 : A * 2 ^ j % b = 0 <;> by_cases h6 : A * 2 ^ j / b % 2 ^ j = 0 <;> simp [h5,h6]
theorem ZeW (t j : Nat) : t * 2 ^ j * (t * 2 ^ j) = t * t * 2 ^ (2 * j):=by
 rw [Nat.mul_mul_mul_comm,← Nat.pow_add,show j + j = 2 * j by omega]
theorem Zyn {X r t j : Nat} (h1 : r * r≤X) (h2 : X < (r + 1) * (r + 1)) (h3 : t * t≤X / 2 ^ (2 * j)) (h4 : X / 2 ^ (2 * j) < (t + 1) * (t + 1)) :
  t = r / 2 ^ j∧((t * t = X / 2 ^ (2 * j)∧X % 2 ^ (2 * j) = 0)↔(r * r = X∧r % 2 ^ j = 0)):=by
 have hp:=Nat.two_pow_pos j
 have hq:=Nat.two_pow_pos (2 * j)
 have g1 : t * 2 ^ j * (t * 2 ^ j)≤X:=by
  rw [ZeW]
  exact Nat.le_trans (Nat.mul_le_mul_right _ h3) (Nat.div_mul_le_self ..)
 have g2 : t * 2 ^ j≤r:=by
  rcases Nat.lt_or_ge r (t * 2 ^ j) with h | h
  ·have:=Nat.mul_le_mul (show r + 1≤t * 2 ^ j from h) (show r + 1≤t * 2 ^ j from h); omega
  ·exact h
 have g3 : r / 2 ^ j * (r / 2 ^ j)≤X / 2 ^ (2 * j):=by
  rw [Nat.le_div_iff_mul_le hq,← ZeW]
  exact Nat.le_trans (Nat.mul_le_mul (Nat.div_mul_le_self ..) (Nat.div_mul_le_self ..)) h1
 have g4 : r / 2 ^ j≤t:=by
  rcases Nat.lt_or_ge t (r / 2 ^ j) with h | h
  ·have:=Nat.mul_le_mul (show t + 1≤r / 2 ^ j from h) (show t + 1≤r / 2 ^ j from h); omega
  ·exact h
 have g5 : t = r / 2 ^ j:=Nat.le_antisymm ((Nat.le_div_iff_mul_le hp).2 g2) g4
 refine ⟨g5,?_⟩
 have m1:=Nat.div_add_mod X (2 ^ (2 * j))
 have m2:=Nat.div_add_mod r (2 ^ j)
 constructor
 ·rintro ⟨a1,a2⟩
  have hX : t * 2 ^ j * (t * 2 ^ j) = X:=by
   rw [ZeW,a1,Nat.mul_comm]; omega
  have hr : t * 2 ^ j = r:=by
   refine Zoq (a:=X) (Nat.le_of_eq hX) ?_ h1 h2
   rw [← hX]; exact Nat.mul_lt_mul_of_lt_of_le (Nat.lt_succ_self _) (Nat.le_succ _) (by omega)
  refine ⟨by rw [← hr]; exact hX,?_⟩
  rw [← hr]; exact Nat.mul_mod_left ..
 ·rintro ⟨a1,a2⟩
  have hr : r = t * 2 ^ j:=by rw [g5,Nat.mul_comm]; omega
  have hX : X = t * t * 2 ^ (2 * j):=by rw [← a1,hr,ZeW]
  refine ⟨?_,by rw [hX]; exact Nat.mul_mod_left ..⟩
  rw [hX,Nat.mul_div_cancel _ hq]
theorem ZDK (F : Fm) (md : Int) (neg : Bool) {X r t j : Nat} (E : Int) (h1 : r * r≤X) (h2 : X < (r + 1) * (r + 1)) (h3 : t * t≤X / 2 ^ (2 * j)) (h4 : X / 2 ^ (2 * j) < (t + 1) * (t + 1)) (h : F.fr + 2≤blen t) :
  sW F md neg t (!decide (X % 2 ^ (2 * j) = 0) || !decide (t * t = X / 2 ^ (2 * j))) (E + j) = sW F md neg r (!decide (r * r = X)) E:=by
 obtain ⟨e1,e2⟩:=Zyn h1 h2 h3 h4
 have hbl:=Zam r j
 rw [← e1] at hbl
 have h5:=ZfT F md neg (Q:=r) (j:=j) (!decide (r * r = X)) E (by omega)
 rw [← e1] at h5
 rw [← h5]
 congr 1
 rw [Bool.eq_iff_iff]
 simp only [Bool.or_eq_true,Bool.not_eq_true',decide_eq_true_eq,decide_eq_false_iff_not,ne_eq]
 by_cases h6 : t * t = X / 2 ^ (2 * j) <;> by_cases h7 : X % 2 ^ (2 * j) = 0 <;> by_cases h8 : r * r = X <;> by_cases h9 : r % 2 ^ j = 0 <;> simp_all
def quoW (F : Fm) (md : Int) (a b : Dy) : Nat × Nat :=
 sW F md (a.n != b.n) (a.m * 2 ^ quoN 64 a.m b.m / b.m) (!decide (a.m * 2 ^ quoN 64 a.m b.m % b.m = 0)) (a.e - b.e - (quoN 64 a.m b.m : Nat))
theorem ZGh (o1 o2 : Bool) : (!o1 || !o2) = (!o2 || !o1):=by cases o1 <;> cases o2 <;> rfl
theorem head64 {w : Nat} (h : blen w = 64) : headN w = w∧behindN w = false:=by
 unfold headN behindN
 rw [if_pos (by omega),if_pos (by omega),h]
 exact ⟨Nat.mul_one w,rfl⟩
theorem ZxF {n : Bool} {w : Nat} {e : Int} (h : blen w = 64) : headN (mkD n w e).m = w∧behindN (mkD n w e).m = false∧(mkD n w e).e + (blen (mkD n w e).m : Int) = e + 64∧(mkD n w e).m≠0∧(mkD n w e).n = n:=by
 have h0 : w≠0:=by rintro rfl; rw [Zal] at h; omega
 have t1:=(ZcY h0).1
 have hb:=Zam w (tz w)
 have hz:=Zfu h0
 have hm' : w / 2 ^ tz w≠0:=by intro hc; rw [hc,Zal] at hb; omega
 obtain ⟨e1,e2⟩:=ZqU hm' (tz w)
 rw [← t1] at e1 e2
 rw [Zar h0]
 simp only
 rw [← e1,← e2]
 exact ⟨(head64 h).1,(head64 h).2,by omega,hm',by trivial⟩
theorem Zsg (F : Fm) : F.fr + 2≤54:=by cases F <;> decide
theorem Zor (J : Al G T g) (F : Fm) {m : Int} (hm : 1≤m∧m≤5) {z y : Bool} {a b : Dy} (da : mayD a.n (dl a.m) a.e = true) (db : mayD b.n (dl b.m) b.e = true)
  (ha : a.m≠0) (hb : b.m≠0) (hw : quoN 64 a.m b.m + blen a.m≤131072) :
  run G T 15 [.int .u8 F.u,.int .u8 m,DyA z a,DyA y b] = some (.tup [.int .u64 ((quoW F m a b).1 : Int),.int .u8 ((quoW F m a b).2 : Int),.int .i64 0]):=by
 rw [Zac G T J.E.Zor]
 obtain ⟨f1,f2,f3,f4,f5⟩:=ZcN da
 obtain ⟨g1,g2,g3,g4,g5⟩:=ZcN db
 have o1:=ZsC J F hm (n:=a.n) (z:=z) (n':=b.n) (z':=y) (ZaC a.m) (ZaC b.m) (e:=a.e) (e':=b.e)
 rw [da,db,Bool.and_self,if_pos rfl] at o1
 have s1:=ZdZ J (n:=a.n) (z:=z) (ZaC a.m) (e:=a.e)
 rw [ZiT da,if_neg ha] at s1
 have s2:=ZdZ J (n:=b.n) (z:=y) (ZaC b.m) (e:=b.e)
 rw [ZiT db,if_neg hb] at s2
 have bound : ∀ {n : Bool} {m : Nat} {e : Int},mayD n (dl m) e = true→m≠0→mayD false (dl m) 0 = true:=by
  intro n m e hx hx0
  have h1 : ¬ (dl m).length = 0:=by rw [Zaz]; exact hx0
  simp only [mayD] at hx ⊢
  rw [if_neg h1] at hx ⊢
  simp only [Bool.and_eq_true,decide_eq_true_eq] at hx ⊢
  exact ⟨hx.1,hx.2.1,by omega⟩
 have hqb:=ZlF (k:=64) ha hb
 obtain ⟨S,hS⟩ : ∃ S,blen (a.m * 2 ^ quoN 64 a.m b.m / b.m) = 64 + S:=⟨blen (a.m * 2 ^ quoN 64 a.m b.m / b.m) - 64,by omega⟩
 obtain ⟨zq,q1⟩:=Zpz J (z:=z) (y:=y) (a:=⟨false,a.m,0⟩) (b:=⟨false,b.m,0⟩) (k:=64) (S:=S) (bound da ha) (bound db hb) ha hb (by omega) hw ⟨by simp,by simp⟩ ⟨by simp,by simp⟩ hS
 simp only at q1
 rw [show ((64 : Nat) : Int) = 64 from rfl] at q1
 have bS:=Zam (a.m * 2 ^ quoN 64 a.m b.m / b.m) S
 have hb64 : blen (a.m * 2 ^ quoN 64 a.m b.m / b.m / 2 ^ S) = 64:=by omega
 have hq1:=quoN
 have hN : quoN 64 a.m b.m = 64 + 1 + blen b.m - blen a.m:=rfl
 have bS2:=ZaF (Nat.div_le_self (a.m * 2 ^ quoN 64 a.m b.m) b.m)
 rw [Zap ha] at bS2
 have bbm:=Zee g1
 have W : quoW F m a b = partW F m (a.n != b.n) (a.m * 2 ^ quoN 64 a.m b.m / b.m / 2 ^ S) (!decide (a.m * 2 ^ quoN 64 a.m b.m / b.m % 2 ^ S = 0) || !decide (a.m * 2 ^ quoN 64 a.m b.m % b.m = 0))
   ((0 : Int) - 0 - (quoN 64 a.m b.m : Nat) + S + 64 + (a.e - b.e)):=by
  rw [Zqd _ _ _ _ _ hb64]
  have:=ZfT F m (a.n != b.n) (Q:=a.m * 2 ^ quoN 64 a.m b.m / b.m) (j:=S) (!decide (a.m * 2 ^ quoN 64 a.m b.m % b.m = 0)) (a.e - b.e - (quoN 64 a.m b.m : Nat)) (by have:=Zsg F; omega)
  unfold quoW
  simp only [ne_eq,decide_not] at this
  rw [← this,ZGh,show (0 : Int) - 0 - (quoN 64 a.m b.m : Nat) + S + 64 + (a.e - b.e) - 64 = a.e - b.e - (quoN 64 a.m b.m : Nat) + S by omega]
 rw [W]
 clear W bS
 generalize a.m * 2 ^ quoN 64 a.m b.m / b.m % 2 ^ S = R1 at *
 generalize a.m * 2 ^ quoN 64 a.m b.m % b.m = R2 at *
 generalize a.m * 2 ^ quoN 64 a.m b.m / b.m / 2 ^ S = Q at *
 generalize a.m * 2 ^ quoN 64 a.m b.m / b.m = Q0 at *
 have hX : -2000000 < (0 : Int) - 0 - (quoN 64 a.m b.m : Nat) + S∧(0 : Int) - 0 - (quoN 64 a.m b.m : Nat) + S < 2000000:=by omega
 generalize (0 : Int) - 0 - (quoN 64 a.m b.m : Nat) + S = X at *
 obtain ⟨k1,k2,k3,k4,k5⟩:=ZxF (n:=false != false) (e:=X) hb64
 have hd:=Zar (n:=false != false) (m:=Q) (by rintro rfl; rw [Zal] at hb64; omega) X
 have hQ0 : Q≠0:=by rintro rfl; rw [Zal] at hb64; omega
 have tq:=Zfu hQ0
 have hmm : mayL (dl (mkD (false != false) Q X).m) = true:=Zau (by
  have:=Zam Q (tz Q)
  rw [hd]; simp only; omega)
 have p1:=Zhe J (z:=zq) (d:=mkD (false != false) Q X) hmm k4 (by rw [hd]; simp only; omega)
 rw [k1,k2,k3] at p1
 have w1:=Zpb J F hm (neg:=a.n != b.n) (more:=!decide (R1 = 0) || !decide (R2 = 0)) (w:=Q) (top:=X + 64 + (a.e - b.e)) hb64 (by omega)
 have wa : IntKind.i64.wrap (a.e - b.e) = a.e - b.e:=Zad (by omega)
 have wb : IntKind.i64.wrap (X + 64 + (a.e - b.e)) = X + 64 + (a.e - b.e):=Zad (by omega)
 clear k1 k2 k3 k4 k5 hd tq hmm hb64 hw hN hqb hS bS2 bbm f1 f2 f3 f4 f5 g1 g2 g3 g4 g5 da db bound hX hq1
 obtain ⟨na,ma,ea⟩:=a
 obtain ⟨nb,mb,eb⟩:=b
 simp only at *
 have hne : (na != nb) = !decide (na = nb):=by cases na <;> cases nb <;> rfl
 rw [hne] at w1 ⊢
 have c1 : ¬ (if na = true then (-1 : Int) else 1) = 0:=by split <;> decide
 have c2 : ¬ (if nb = true then (-1 : Int) else 1) = 0:=by split <;> decide
 generalize (if na = true then (-1 : Int) else 1) = sa at *
 generalize (if nb = true then (-1 : Int) else 1) = sb at *
 generalize (!decide (R1 = 0) || !decide (R2 = 0)) = lost at *
 simp only [DyA,A3,fmA,partA] at *
 cases lost <;> (
  repeat' (first|simp (maxSteps:=9^7) only [seval,exC,Ziw,o1,s1,s2,c1,c2,q1,p1,wa,wb,w1]|simp (maxSteps:=9^7) (disch:=first|with_reducible assumption|omega) only [dxB]|(simp only [kdB];split)|(simp only [kvB];split))
  all_goals try rfl)
def beyD (n : Bool) (q : Nat) (e : Int) (lost : Bool) : Dy:=if lost then mkD n (q * 2 ^ 2 + 1) (e - 2) else mkD n q e
theorem Znk {n : Bool} {q : Nat} {e : Int} (hq : blen q = 60) : (mkD n q e).n = n∧topD (mkD n q e) = e + 60∧addD (mkD n q e) ⟨n,1,e - 2⟩ = mkD n (q * 2 ^ 2 + 1) (e - 2):=by
 have h0 : q≠0:=by rintro rfl; rw [Zal] at hq; omega
 refine ⟨by rw [Zar h0],by rw [ZyV h0,hq]; rfl,?_⟩
 have t1:=(ZcY h0).1
 have hb:=Zam q (tz q)
 have hz:=Zfu h0
 have hm' : q / 2 ^ tz q≠0:=by intro hc; rw [hc,Zal] at hb; omega
 rw [Zar h0]
 unfold addD
 simp only
 rw [if_neg hm',if_neg (by decide),if_pos trivial,show min (e + (tz q : Int)) (e - 2) = e - 2 by omega,show (e + (tz q : Int) - (e - 2)).toNat = tz q + 2 by omega,show (e - 2 - (e - 2)).toNat = 0 by omega,Nat.pow_add,← Nat.mul_assoc,← t1]
theorem ZGp (F : Fm) (md : Int) (n : Bool) {q : Nat} {e : Int} {lost : Bool} (hq : blen q = 60) : rndW F md (beyD n q e lost) = sW F md n q lost e:=by
 have hF:=Zsg F
 unfold beyD
 cases lost
 ·rw [if_neg (by decide),Zoo F md n e (by omega)]
 ·have h0 : q≠0:=by rintro rfl; rw [Zal] at hq; omega
  have hb:=Zap h0 2
  have hb2:=ZaF (show q * 2 ^ 2≤q * 2 ^ 2 + 1 by omega)
  rw [if_pos rfl,Zoo F md n (e - 2) (by omega)]
  exact Zyr F md n (j:=2) e (by decide) (by omega)
theorem ZEe {n : Bool} {q : Nat} {e : Int} {lost : Bool} (hq : blen q = 60) (he : -100000000 < e∧e < 100000000) : Bd (beyD n q e lost) 134217728:=by
 unfold beyD
 split
 ·have h0 : q * 2 ^ 2 + 1≠0:=by omega
  have hb : blen (q * 2 ^ 2 + 1)≤63:=by
   have:=Zae.1 (Nat.le_of_eq hq)
   refine Zae.2 ?_
   omega
  exact ZmJ (by omega) (by omega) (by omega)
 ·exact ZmJ (by omega) (by omega) (by omega)
theorem ZEj (n : Bool) (q : Nat) (e : Int) (lost : Bool) : Nz (beyD n q e lost):=by
 unfold beyD; split <;> exact ZkY _ _ _
theorem ZjG (J : Al G T g) {z n lost : Bool} {q : Nat} {e : Int} (hq : blen q = 60) (he : -100000000 < e∧e < 100000000) :
  ∃ z',run G T 42 [DyA z (mkD n q e),.bool lost] = some (DyA z' (beyD n q e lost)):=by
 apply exP
 rw [Zac G T J.E.ZjG]
 obtain ⟨e1,e2,e3⟩:=Znk (n:=n) (e:=e) hq
 have bd : Bd (mkD n q e) 134217728:=ZmJ (by omega) (by omega) (by omega)
 have hl:=Zaa (mkD n q e).m
 have s1:=Zeh J (z:=z) (d:=mkD n q e) (by have:=bd.bl; omega) (by have:=bd.lo; have:=bd.hi; omega)
 rw [e2] at s1
 have s2:=ZlM J (n:=e - 2)
 have b2 : Bd (twoD (e - 2)) 134217728:=ZAv (by omega) (by decide)
 unfold beyD
 rw [← e3]
 have w1 : IntKind.i64.wrap (e + 60 - 60) = e:=by rw [Zad (by omega)]; omega
 have w2 : IntKind.i64.wrap (e - 2) = e - 2:=Zad (by omega)
 cases n
 ·obtain ⟨z1,s3⟩:=ZhO J (z:=z) (y:=false) (bd.mono (by decide)) (b2.mono (by decide))
  rw [show twoD (e - 2) = ⟨false,1,e - 2⟩ from rfl] at s3
  rw [show twoD (e - 2) = ⟨false,1,e - 2⟩ from rfl] at s2
  simp only [DyA,A3,e1] at *
  cases lost
  ·repeat' (first|simp (maxSteps:=9^7) only [seval,exC,ZbG]|simp (maxSteps:=9^7) (disch:=first|with_reducible assumption|omega) only [dxB]|(simp only [kdB];split)|(simp only [kvB];split))
   exact ⟨_,rfl,_,(by first | rfl | rw [(Znk (e:=e) hq).1])⟩
  ·repeat' (first|simp (maxSteps:=9^7) only [seval,exC,ZbG,s1,s2,s3,w1,w2]|simp (maxSteps:=9^7) (disch:=first|with_reducible assumption|omega) only [dxB]|(simp only [kdB];split)|(simp only [kvB];split))
   exact ⟨_,rfl,_,(by first | rfl | rw [(Znk (e:=e) hq).1])⟩
 ·obtain ⟨z1,s3⟩:=ZhP J (z:=z) (y:=false) (bd.mono (by decide)) (b2.mono (by decide))
  have hneg : subD (mkD true q e) (twoD (e - 2)) = addD (mkD true q e) ⟨true,1,e - 2⟩:=rfl
  rw [hneg] at s3
  rw [show twoD (e - 2) = ⟨false,1,e - 2⟩ from rfl] at s3 s2
  simp only [DyA,A3,e1] at *
  cases lost
  ·repeat' (first|simp (maxSteps:=9^7) only [seval,exC,ZbG]|simp (maxSteps:=9^7) (disch:=first|with_reducible assumption|omega) only [dxB]|(simp only [kdB];split)|(simp only [kvB];split))
   exact ⟨_,rfl,_,(by first | rfl | rw [(Znk (e:=e) hq).1])⟩
  ·repeat' (first|simp (maxSteps:=9^7) only [seval,exC,ZbG,s1,s2,s3,w1,w2]|simp (maxSteps:=9^7) (disch:=first|with_reducible assumption|omega) only [dxB]|(simp only [kdB];split)|(simp only [kvB];split))
   exact ⟨_,rfl,_,(by first | rfl | rw [(Znk (e:=e) hq).1])⟩
theorem ZtG : ∀ X : Nat,∃ r,r * r≤X∧X < (r + 1) * (r + 1):=by
 intro X
 induction X with
 | zero => exact ⟨0,by decide,by decide⟩
 | succ X ih =>
  obtain ⟨r,h1,h2⟩:=ih
  by_cases h : X + 1 < (r + 1) * (r + 1)
  ·exact ⟨r,by omega,h⟩
  ·refine ⟨r + 1,by omega,?_⟩
   have : (r + 1) * (r + 1) < (r + 1 + 1) * (r + 1 + 1):=Nat.mul_lt_mul_of_lt_of_le (Nat.lt_succ_self _) (Nat.le_succ _) (by omega)
   omega
noncomputable def isq (X : Nat) : Nat:=Classical.choose (ZtG X)
theorem Zls (X : Nat) : isq X * isq X≤X∧X < (isq X + 1) * (isq X + 1):=Classical.choose_spec (ZtG X)
def rootP (e : Int) : Nat:=130 + (e % 2).toNat
noncomputable def rootW (F : Fm) (md : Int) (d : Dy) : Nat × Nat :=
 sW F md false (isq (d.m * 2 ^ rootP d.e)) (!decide (isq (d.m * 2 ^ rootP d.e) * isq (d.m * 2 ^ rootP d.e) = d.m * 2 ^ rootP d.e)) ((d.e - (rootP d.e : Nat)) / 2)
theorem ZDN {m P : Nat} {n : Int} (h : n≤P) : shN m n = m * 2 ^ P / 2 ^ ((P : Int) - n).toNat∧shB m n = !decide (m * 2 ^ P % 2 ^ ((P : Int) - n).toNat = 0):=by
 unfold shN shB
 by_cases h0 : 0≤n
 ·rw [if_pos h0,if_pos h0,ZiB (by omega),ZkL (by omega),show P - ((P : Int) - n).toNat = n.toNat by omega]
  exact ⟨rfl,rfl⟩
 ·rw [if_neg h0,if_neg h0,ZgZ (by omega),Zjv (by omega),show ((P : Int) - n).toNat - P = (-n).toNat by omega]
  have hp:=Nat.two_pow_pos P
  refine ⟨rfl,?_⟩
  congr 1
  refine decide_eq_decide.2 ?_
  constructor
  ·intro h1; rw [h1,Nat.zero_mul]
  ·intro h1
   rcases Nat.mul_eq_zero.1 h1 with h2 | h2
   ·exact h2
   ·omega
theorem Zqm (F : Fm) (md : Int) {m t : Nat} {e n c : Int} (h0 : n≤rootP e) (hc : e - n = 2 * c) (h1 : t * t≤shN m n) (h2 : shN m n < (t + 1) * (t + 1)) (hb : F.fr + 2≤blen t) (s : Bool) :
  sW F md false t (shB m n || !decide (t * t = shN m n)) c = rootW F md ⟨s,m,e⟩:=by
 have hP : rootP e = 130 + (e % 2).toNat:=rfl
 obtain ⟨e1,e2⟩:=ZDN (m:=m) h0
 obtain ⟨r1,r2⟩:=Zls (m * 2 ^ rootP e)
 have hj : ((rootP e : Nat) - n).toNat = 2 * (((rootP e : Nat) - n).toNat / 2):=by omega
 rw [hj] at e1 e2
 have h3:=ZDK F md false (X:=m * 2 ^ rootP e) (r:=isq (m * 2 ^ rootP e)) (t:=t) (j:=((rootP e : Nat) - n).toNat / 2) ((e - (rootP e : Nat)) / 2) r1 r2 (by rw [← e1]; exact h1) (by rw [← e1]; exact h2) hb
 unfold rootW
 simp only
 rw [← h3,e2,e1,show (e - (rootP e : Nat)) / 2 + ((((rootP e : Nat) - n).toNat / 2 : Nat) : Int) = c by omega]
theorem Zkq (J : Al G T g) (F : Fm) {m : Int} (hm : 1≤m∧m≤5) {z : Bool} {d : Dy} (dd : mayD d.n (dl d.m) d.e = true) (h0 : d.m≠0) (hs : d.n = false) :
  run G T 18 [.int .u8 F.u,.int .u8 m,DyA z d] = some (.tup [.int .u64 ((rootW F m d).1 : Int),.int .u8 ((rootW F m d).2 : Int),.int .i64 0]):=by
 rw [Zac G T J.E.Zkq]
 obtain ⟨f1,f2,f3,f4,f5⟩:=ZcN dd
 have o1:=Zot J F hm (n:=d.n) (z:=z) (ZaC d.m) (e:=d.e)
 rw [dd,if_pos rfl] at o1
 have s1:=ZdZ J (n:=d.n) (z:=z) (ZaC d.m) (e:=d.e)
 rw [ZiT dd,if_neg h0,hs,if_neg (by decide)] at s1
 have hbm:=Zee f1
 have hbp:=ZaS h0
 obtain ⟨n,hn⟩ : ∃ n : Int,n = 2 * ((64 : Nat) : Int) + 2 - blen d.m + (d.e - (2 * ((64 : Nat) : Int) + 2 - blen d.m)) % 2:=⟨_,rfl⟩
 have hP : rootP d.e = 130 + (d.e % 2).toNat:=rfl
 obtain ⟨c,hc⟩ : ∃ c : Int,d.e - n = 2 * c:=⟨(d.e - n) / 2,by omega⟩
 have hnP : n≤rootP d.e:=by omega
 have hbs:=Zut h0 (n:=n) (by omega)
 obtain ⟨r,r1,r2⟩:=ZtG (shN d.m n)
 have hrk : 64 < blen r:=ZjM (k:=64) (r:=r) (M:=shN d.m n) (by
  have:=Zbo (n:=shN d.m n) (by intro hc; rw [hc,Zal] at hbs; omega)
  rw [← Nat.pow_add]
  exact Nat.le_trans (Nat.pow_le_pow_right (by decide) (by omega)) this) r2
 obtain ⟨S,hS⟩ : ∃ S,blen r = 64 + S:=⟨blen r - 64,by omega⟩
 obtain ⟨zq,q1⟩:=Znw J (z:=z) (d:=d) (k:=64) (S:=S) (n:=n) (c:=c) (r:=r) dd h0 hs (by omega) hn hc r1 r2 hS
 rw [show ((64 : Nat) : Int) = 64 from rfl] at q1
 have bS:=Zam r S
 have hb64 : blen (r / 2 ^ S) = 64:=by omega
 have hbr : blen r≤blen (shN d.m n):=ZaF (Nat.le_trans (Nat.le_mul_self r) r1)
 have hF:=Zsg F
 have W : rootW F m d = partW F m false (r / 2 ^ S) (!decide (r % 2 ^ S = 0) || (shB d.m n || !decide (r * r = shN d.m n))) (c + S + 64):=by
  rw [Zqd _ _ _ _ _ hb64]
  have h1:=Zqm F m (m:=d.m) (t:=r) (e:=d.e) (n:=n) (c:=c) hnP hc r1 r2 (by omega) d.n
  have h2:=ZfT F m false (Q:=r) (j:=S) (shB d.m n || !decide (r * r = shN d.m n)) c (by omega)
  simp only [ne_eq,decide_not] at h2
  rw [show rootW F m d = rootW F m ⟨d.n,d.m,d.e⟩ from rfl,← h1,← h2,Bool.or_comm,show c + (S : Int) + 64 - 64 = c + S by omega]
 rw [W]
 clear W bS hrk
 have hX : -10000000 < c + (S : Int)∧c + (S : Int) < 10000000:=by omega
 clear hnP hP hc hn hbs hbr r1 r2 hS hF
 generalize (!decide (r % 2 ^ S = 0) || (shB d.m n || !decide (r * r = shN d.m n))) = lost at *
 generalize c + (S : Int) = X at *
 generalize r / 2 ^ S = Q at *
 have hQ0 : Q≠0:=by rintro rfl; rw [Zal] at hb64; omega
 obtain ⟨k1,k2,k3,k4,k5⟩:=ZxF (n:=false) (e:=X) hb64
 have hd:=Zar (n:=false) (m:=Q) hQ0 X
 have tq:=Zfu hQ0
 have hmm : mayL (dl (mkD false Q X).m) = true:=Zau (by
  have:=Zam Q (tz Q)
  rw [hd]; simp only; omega)
 have p1:=Zhe J (z:=zq) (d:=mkD false Q X) hmm k4 (by rw [hd]; simp only; omega)
 rw [k1,k2,k3] at p1
 have w1:=Zpb J F hm (neg:=false) (more:=lost) (w:=Q) (top:=X + 64) hb64 (by omega)
 clear k1 k2 k3 k4 k5 hd tq hmm hb64 f1 f2 f3 f4 f5 dd hX hQ0 hbm hbp
 obtain ⟨ng,mm,e⟩:=d
 simp only at *
 subst hs
 simp only [DyA,A3,fmA,partA] at *
 cases lost <;> (
  repeat' (first|simp (maxSteps:=9^7) only [seval,exC,Zfk,o1,s1,q1,p1,w1]|simp (maxSteps:=9^7) (disch:=first|with_reducible assumption|omega) only [dxB]|(simp only [kdB];split)|(simp only [kvB];split))
  all_goals try rfl)
theorem Zko (J : Al G T g) (F : Fm) {m : Int} (hm : 1≤m∧m≤5) {z : Bool} {d : Dy} (h0 : d.m≠0) (bd : Bd d 33554432) (lb : blen d.m < 1048576) :
  run G T 19 [.int .u8 F.u,.int .u8 m,DyA z d] = some (.tup [.int .u64 ((rootW F m d).1 : Int),.int .u8 ((rootW F m d).2 : Int)]):=by
 rw [Zac G T J.E.Zko]
 have s1:=Zcf J (z:=z) (d:=d)
 have hs : ¬ sgnD d = 0:=by simp only [sgnD,if_neg h0]; split <;> decide
 obtain ⟨ba1,ba2,ba3⟩:=bd
 have hbp:=ZaS h0
 obtain ⟨N,hN⟩ : ∃ N : Nat,(N : Int) = max 0 (2 * ((60 : Nat) : Int) + 2 - blen d.m) + (d.e - max 0 (2 * ((60 : Nat) : Int) + 2 - blen d.m)) % 2 :=
  ⟨(max 0 (2 * ((60 : Nat) : Int) + 2 - blen d.m) + (d.e - max 0 (2 * ((60 : Nat) : Int) + 2 - blen d.m)) % 2).toNat,by omega⟩
 have hP : rootP d.e = 130 + (d.e % 2).toNat:=rfl
 obtain ⟨c,hc⟩ : ∃ c : Int,d.e - N = 2 * c:=⟨(d.e - N) / 2,by omega⟩
 have hnP : (N : Int)≤rootP d.e:=by omega
 have hsh : shN d.m (N : Int) = d.m * 2 ^ N∧shB d.m (N : Int) = false:=by
  unfold shN shB
  rw [if_pos (by omega),if_pos (by omega),Int.toNat_natCast]
  exact ⟨rfl,rfl⟩
 obtain ⟨r,r1,r2⟩:=ZtG (d.m * 2 ^ N)
 have hbN:=Zap h0 N
 have hrk : 60 < blen r:=ZjM (k:=60) (r:=r) (M:=d.m * 2 ^ N) (by
  have:=Zbo (n:=d.m * 2 ^ N) (by intro hc; rw [hc,Zal] at hbN; omega)
  rw [← Nat.pow_add]
  exact Nat.le_trans (Nat.pow_le_pow_right (by decide) (by omega)) this) r2
 obtain ⟨S,hS⟩ : ∃ S,blen r = 60 + S:=⟨blen r - 60,by omega⟩
 obtain ⟨z1,q1⟩:=Zmr J (z:=z) (d:=d) (k:=60) (S:=S) (N:=N) (c:=c) (r:=r) h0 lb (by omega) (by omega) (by omega) hN hc r1 r2 hS
 rw [show ((60 : Nat) : Int) = 60 from rfl] at q1
 have bS:=Zam r S
 have hb60 : blen (r / 2 ^ S) = 60:=by omega
 have hbr : blen r≤blen (d.m * 2 ^ N):=ZaF (Nat.le_trans (Nat.le_mul_self r) r1)
 have hF:=Zsg F
 have W : rootW F m d = sW F m false (r / 2 ^ S) (!decide (r % 2 ^ S = 0) || !decide (r * r = d.m * 2 ^ N)) (c + S):=by
  have h1:=Zqm F m (m:=d.m) (t:=r) (e:=d.e) (n:=N) (c:=c) hnP hc (by rw [hsh.1]; exact r1) (by rw [hsh.1]; exact r2) (by omega) d.n
  rw [hsh.1,hsh.2,Bool.false_or] at h1
  have h2:=ZfT F m false (Q:=r) (j:=S) (!decide (r * r = d.m * 2 ^ N)) c (by omega)
  simp only [ne_eq,decide_not] at h2
  rw [show rootW F m d = rootW F m ⟨d.n,d.m,d.e⟩ from rfl,← h1,← h2,ZGh]
 rw [W]
 clear W bS hrk
 have hX : -99000000 < c + (S : Int)∧c + (S : Int) < 99000000:=by omega
 clear hnP hP hc hN hbN hbr r1 r2 hS hF hsh
 generalize (!decide (r % 2 ^ S = 0) || !decide (r * r = d.m * 2 ^ N)) = lost at *
 generalize c + (S : Int) = X at *
 generalize r / 2 ^ S = Q at *
 obtain ⟨z2,q2⟩:=ZjG J (z:=z1) (n:=false) (lost:=lost) (e:=X) hb60 (by omega)
 have q3:=ZkN J F hm (z:=z2) (x:=beyD false Q X lost) (ZEj _ _ _ _) (ZEe hb60 (by omega))
 rw [ZGp F m _ hb60] at q3
 simp only [DyA,A3] at *
 repeat' (first|simp (maxSteps:=9^7) only [seval,exC,Zfi,s1,hs,q1,q2,q3]|simp (maxSteps:=9^7) (disch:=first|with_reducible assumption|omega) only [dxB]|(simp only [kdB];split)|(simp only [kvB];split))
 all_goals try rfl
theorem Zos (J : Al G T g) (F : Fm) {m : Int} (hm : 1≤m∧m≤5) {z : Bool} {d : Dy} (dd : mayD d.n (dl d.m) d.e = true) (h0 : d.m = 0) :
  run G T 18 [.int .u8 F.u,.int .u8 m,DyA z d] = some (.tup [.int .u64 0,.int .u8 0,.int .i64 0]):=by
 rw [Zac G T J.E.Zkq]
 have o1:=Zot J F hm (n:=d.n) (z:=z) (ZaC d.m) (e:=d.e)
 rw [dd,if_pos rfl] at o1
 have s1:=ZdZ J (n:=d.n) (z:=z) (ZaC d.m) (e:=d.e)
 rw [ZiT dd,if_pos h0] at s1
 have hn : d.n = false:=((ZcN dd).2.1 (Zaz.2 h0)).1
 simp only [DyA,A3,fmA,hn] at *
 repeat' (first|simp (maxSteps:=9^7) only [seval,exC,Zfk,o1,s1]|simp (maxSteps:=9^7) (disch:=first|with_reducible assumption|omega) only [dxB]|(simp only [kdB];split)|(simp only [kvB];split))
 all_goals try rfl
theorem Zoj (J : Al G T g) (F : Fm) {m : Int} {z : Bool} {d : Dy} (h0 : d.m = 0) :
  run G T 19 [.int .u8 F.u,.int .u8 m,DyA z d] = some (.tup [.int .u64 0,.int .u8 0]):=by
 rw [Zac G T J.E.Zko]
 have s1:=Zcf J (z:=z) (d:=d)
 rw [show sgnD d = 0 by simp [sgnD,h0]] at s1
 simp only [DyA,A3] at *
 repeat' (first|simp (maxSteps:=9^7) only [seval,exC,Zfi,s1]|simp (maxSteps:=9^7) (disch:=first|with_reducible assumption|omega) only [dxB]|(simp only [kdB];split)|(simp only [kvB];split))
 all_goals try rfl
def cT (a b : List Nat) (k i : Nat) : Nat:=if i≤k then dg a i * dg b (k - i) else 0
def cS (a b : List Nat) (k : Nat) : Nat→Nat
 | 0 => 0
 | i + 1 => cS a b k i + cT a b k i
def cV (a b : List Nat) : Nat→Nat
 | 0 => 0
 | N + 1 => cV a b N + 4294967296 ^ N * cS a b N a.length
theorem ZHd (x : Nat) (a : List Nat) : dg (x :: a) 0 = x:=by rw [Zfr (by simp)]; rfl
theorem ZHe (x : Nat) (a : List Nat) (i : Nat) : dg (x :: a) (i + 1) = dg a i:=rfl
theorem Zwz (x : Nat) (a b : List Nat) (k : Nat) : ∀ i,cS (x :: a) b k (i + 1) = x * dg b k + (if k = 0 then 0 else cS a b (k - 1) i)
 | 0 => by
  simp only [cS,cT,ZHd,Nat.sub_zero,Nat.zero_le,if_true,Nat.zero_add]
  split <;> rfl
 | i + 1 => by
  rw [cS,Zwz x a b k i,cT,ZHe]
  by_cases h0 : k = 0
  ·rw [if_pos h0,if_pos h0,if_neg (by omega)]
  ·rw [if_neg h0,if_neg h0,cS,cT]
   by_cases h1 : i + 1≤k
   ·rw [if_pos h1,if_pos (by omega),show k - 1 - i = k - (i + 1) by omega,Nat.add_assoc]
   ·rw [if_neg h1,if_neg (by omega)]; rfl
theorem ZwA (x : Nat) (a b : List Nat) : ∀ N,cV (x :: a) b N = x * val (b.take N) + (if N = 0 then 0 else 4294967296 * cV a b (N - 1))
 | 0 => by simp [cV,val]
 | N + 1 => by
  rw [cV,ZwA x a b N,List.length_cons,Zwz,Zab,if_neg (show ¬ N + 1 = 0 by omega),Nat.add_sub_cancel]
  by_cases h0 : N = 0
  ·subst h0
   rw [if_pos rfl,if_pos rfl]; simp [cV,val]
  ·obtain ⟨M,rfl⟩ : ∃ M,N = M + 1:=⟨N - 1,by omega⟩
   rw [if_neg (show ¬ M + 1 = 0 by omega),if_neg (show ¬ M + 1 = 0 by omega),Nat.add_sub_cancel,cV]
   simp only [Nat.mul_add,Nat.pow_succ]
   generalize cV a b M = V
   generalize cS a b M a.length = S
   generalize val (b.take (M + 1)) = U
   generalize dg b (M + 1) = d
   generalize 4294967296 ^ M = p
   rw [Nat.mul_left_comm (p * 4294967296) x d,show p * 4294967296 * S = 4294967296 * (p * S) by rw [Nat.mul_comm p,Nat.mul_assoc]]
   omega
theorem ZAF (b : List Nat) : ∀ N,cV [] b N = 0
 | 0 => rfl
 | N + 1 => by rw [cV,ZAF b N,List.length_nil,cS,Nat.mul_zero]
theorem ZED (b : List Nat) : ∀ (a : List Nat) (N : Nat),a.length + b.length≤N→cV a b N = val a * val b
 | [],N,_ => by rw [Zqw,Nat.zero_mul,ZAF]
 | x :: a,N,h => by
  rw [List.length_cons] at h
  rw [ZwA,List.take_of_length_le (by omega),if_neg (by omega),ZED b a (N - 1) (by omega),ZaJ,Nat.add_mul,Nat.mul_assoc]
theorem ZAD {a b : List Nat} {k : Nat} : ∀ {i : Nat},i + b.length≤k + 1→cS a b k i = 0
 | 0,_ => rfl
 | i + 1,h => by
  rw [cS,ZAD (by omega),cT]
  split
  ·rw [ZiA (l:=b) (by omega),Nat.mul_zero]
  ·rfl
theorem ZAE {a b : List Nat} {k : Nat} : ∀ j,cS a b k (k + 1 + j) = cS a b k (k + 1)
 | 0 => rfl
 | j + 1 => by rw [← Nat.add_assoc,cS,ZAE j,cT,if_neg (by omega)]; rfl
theorem ZEC (a b : List Nat) (k n : Nat) : cS a b k (min (k + 1) n) = cS a b k n:=by
 rcases Nat.lt_or_ge n (k + 1) with h | h
 ·rw [Nat.min_eq_right (by omega)]
 ·rw [Nat.min_eq_left h]
  have:=ZAE (a:=a) (b:=b) (k:=k) (n - (k + 1))
  rw [show k + 1 + (n - (k + 1)) = n by omega] at this
  exact this.symm
theorem ZHb {a b : List Nat} (ha : Dg a) (hb : Dg b) (k i : Nat) : cT a b k i < 18446744073709551616:=by
 unfold cT; split
 ·have:=ZxB (ha.dg i) (hb.dg (k - i)) (show 0 < 4294967296 by decide) (show 0 < 4294967296 by decide); omega
 ·decide
theorem ZCN {a b : List Nat} (ha : Dg a) (hb : Dg b) (k : Nat) : ∀ i,cS a b k i≤i * 18446744073709551616
 | 0 => Nat.zero_le _
 | i + 1 => by
  have:=ZHb ha hb k i
  have:=ZCN ha hb k i
  rw [cS]; omega
theorem ZCO {V A L p k S : Nat} (h : L + p * A = V) : L + p * ((A + S) % 4294967296) + p * 4294967296 * ((A + S) / 4294967296) = V + p * S:=by
 rw [Nat.mul_assoc,Nat.add_assoc,← Nat.mul_add,Nat.mod_add_div,Nat.mul_add]; omega
theorem ZGi {a h : Nat} (ha : a < 4294967296) : orI .u64 (a : Int) ((h : Int) * 4294967296 % 18446744073709551616) = ((a + h % 4294967296 * 4294967296 : Nat) : Int):=by
 have e : (h : Int) * 4294967296 % 18446744073709551616 = ((h % 4294967296 * 4294967296 : Nat) : Int):=by omega
 rw [e,or64 (by omega) (by omega),show (4294967296 : Nat) = 2 ^ 32 from rfl,ZlD (show a < 2 ^ 32 from ha)]
theorem Znf {a b : List Nat} {z y : Bool} {k A : Nat} {v : AV} (ha : Dg a) (hb : Dg b) (hs : a.length < 1073741824) (hk : k < 2147483648) (hA : A < 1298074214633706907132624082305024) : ∀ (m i : Nat) (h : Heap) (low high : Nat),
  m + i = min (k + 1) a.length→k < b.length + i→low < 18446744073709551616→low + 18446744073709551616 * high = A + cS a b k i →
  Post (evL G T ZeL [(0,D z a),(1,D y b),(5,v),(6,.int .u64 (low : Int)),(7,.int .u64 (high : Int)),(8,.int .i64 (k : Int)),(10,.int .i64 (i : Int))] h) fun r =>
   ∃ e low' high',r = (.exit 2,(0,D z a) :: (1,D y b) :: (5,v) :: (6,.int .u64 ((low' : Nat) : Int)) :: (7,.int .u64 ((high' : Nat) : Int)) :: (8,.int .i64 (k : Int)) :: e,h)∧low' < 18446744073709551616∧low' + 18446744073709551616 * high' = A + cS a b k a.length
 | 0,i,h,low,high,hm,hi,hl,he => by
  rw [Zaf G T (c:=ZeL) rfl]
  have hend:=ZEC a b k a.length
  rw [show min (k + 1) a.length = i by omega] at hend
  rw [hend] at he
  by_cases h1 : (i : Int)≤(k : Int)
  ·have h2 : ¬ (i : Int) < (a.length : Int):=by omega
   repeat (first | (simp (maxSteps:=9^7) only [seval,evB,Zdc,h1,h2]) | (simp (disch:=omega) only [dsB]))
   exact Post.some ⟨_,_,_,rfl,hl,he⟩
  ·repeat (first | (simp (maxSteps:=9^7) only [seval,evB,Zdc,h1]) | (simp (disch:=omega) only [dsB]))
   exact Post.some ⟨_,_,_,rfl,hl,he⟩
 | m + 1,i,h,low,high,hm,hi,hl,he => by
  rw [Zaf G T (c:=ZeL) rfl]
  have h1 : (i : Int)≤(k : Int):=by omega
  have h2 : (i : Int) < (a.length : Int):=by omega
  have e7 : (i : Int) + 1 = ((i + 1 : Nat) : Int):=by omega
  have e8 : (k : Int) - (i : Int) = ((k - i : Nat) : Int):=by omega
  have hx:=ha.dg i
  have hy:=hb.dg (k - i)
  have hki : k - i < b.length:=by omega
  have w1 : (dg a i : Int) % 18446744073709551616 = dg a i:=by omega
  have w2 : (dg b (k - i) : Int) % 18446744073709551616 = dg b (k - i):=by omega
  have hM:=ZxB hx hy (show 0 < 4294967296 by decide) (show 0 < 4294967296 by decide)
  have hSb:=ZCN ha hb k i
  have w4 : (dg a i : Int) * (dg b (k - i) : Int) = ((dg a i * dg b (k - i) : Nat) : Int):=by rw [Int.natCast_mul]
  have hcs : cS a b k (i + 1) = cS a b k i + dg a i * dg b (k - i):=by rw [cS,cT,if_pos (by omega)]
  generalize dg a i * dg b (k - i) = p at *
  have w5 : (p : Int) % 18446744073709551616 = p:=by omega
  by_cases hc : low + p < 18446744073709551616
  ·have w6 : ((low : Int) + (p : Int)) % 18446744073709551616 = ((low + p : Nat) : Int):=by omega
   have w7 : ¬ ((low + p : Nat) : Int) < (p : Int):=by omega
   repeat (first | (simp (maxSteps:=9^7) only [seval,evB,Zdc,h1,h2,e7,e8,w1,w2,w4,w5,w6,w7]) | (simp (disch:=omega) only [dsB]))
   exact Znf ha hb hs hk hA m (i + 1) _ _ _ (by omega) (by omega) hc (by rw [hcs]; omega)
  ·have w6 : ((low : Int) + (p : Int)) % 18446744073709551616 = ((low + p - 18446744073709551616 : Nat) : Int):=by omega
   have w7 : ((low + p - 18446744073709551616 : Nat) : Int) < (p : Int):=by omega
   have w8 : ((high : Int) + 1) % 18446744073709551616 = ((high + 1 : Nat) : Int):=by omega
   repeat (first | (simp (maxSteps:=9^7) only [seval,evB,Zdc,h1,h2,e7,e8,w1,w2,w4,w5,w6,w7,w8]) | (simp (disch:=omega) only [dsB]))
   exact Znf ha hb hs hk hA m (i + 1) _ _ _ (by omega) (by omega) (by omega) (by rw [hcs]; omega)
theorem Zng {a b : List Nat} {z y : Bool} (ha : Dg a) (hb : Dg b) (hs : a.length < 1073741824) (ht : b.length < 1073741824) : ∀ (m k : Nat) (h : Heap) (v : AV) (l : List Nat) (low high : Nat),
  m + k = a.length + b.length→Bld h v l→Dg l→l.length = k→low < 18446744073709551616→low + 18446744073709551616 * high < 1298074214633706907132624082305024 →
  val l + 4294967296 ^ k * (low + 18446744073709551616 * high) = cV a b k →
  Post (evL G T ZeM [(0,D z a),(1,D y b),(5,v),(6,.int .u64 (low : Int)),(7,.int .u64 (high : Int)),(8,.int .i64 (k : Int))] h) fun r =>
   ∃ e h' v' l' c',r = (.exit 0,(0,D z a) :: (1,D y b) :: (5,v') :: e,h')∧Bld h' v' l'∧Dg l'∧l'.length = a.length + b.length∧val l' + 4294967296 ^ (a.length + b.length) * c' = val a * val b
 | 0,k,h,v,l,low,high,hm,B,hd,hl,hlow,hA,he => by
  rw [Zaf G T (c:=ZeM) rfl]
  have e1 : (a.length : Int) + (b.length : Int) = ((a.length + b.length : Nat) : Int):=by omega
  have h1 : ¬ (k : Int) < ((a.length + b.length : Nat) : Int):=by omega
  repeat (first | (simp (maxSteps:=9^7) only [seval,evB,ZeK,e1,h1]) | (simp (disch:=omega) only [dsB]))
  rw [show k = a.length + b.length by omega,ZED b a _ (Nat.le_refl _)] at he
  exact Post.some ⟨_,_,_,_,_,rfl,B,hd,by omega,he⟩
 | m + 1,k,h,v,l,low,high,hm,B,hd,hl,hlow,hA,he => by
  rw [Zaf G T (c:=ZeM) rfl]
  have e1 : (a.length : Int) + (b.length : Int) = ((a.length + b.length : Nat) : Int):=by omega
  have h1 : (k : Int) < ((a.length + b.length : Nat) : Int):=by omega
  have e7 : (k : Int) + 1 = ((k + 1 : Nat) : Int):=by omega
  obtain ⟨i0,hi0⟩ : ∃ i0,i0 = k + 1 - b.length:=⟨_,rfl⟩
  have hlow0 : cS a b k i0 = 0:=by
   by_cases q : b.length≤k + 1
   ·exact ZAD (by omega)
   ·have : i0 = 0:=by omega
    rw [this]; rfl
  obtain ⟨_,hr,e,low',high',rfl,hlow',he'⟩:=Znf (G:=G) (T:=T) (z:=z) (y:=y) (v:=v) (k:=k) (A:=low + 18446744073709551616 * high) ha hb hs (by omega) hA (min (k + 1) a.length - i0) i0 h low high (by omega) (by omega) hlow (by rw [hlow0]; rfl)
  have hSb:=ZCN ha hb k a.length
  have hstep:=ZCO (S:=cS a b k a.length) (k:=k) he
  rw [← he'] at hstep
  have hacc : low' + 18446744073709551616 * high' < 2596148429267413814265248164610048:=by omega
  have hbnd : (low' + 18446744073709551616 * high') / 4294967296 < 1298074214633706907132624082305024:=by omega
  have hlo : (low' + 18446744073709551616 * high') % 4294967296 = low' % 4294967296:=by omega
  have hnew : low' / 4294967296 + high' % 4294967296 * 4294967296 + 18446744073709551616 * (high' / 4294967296) = (low' + 18446744073709551616 * high') / 4294967296:=by omega
  rw [hlo,← hnew] at hstep
  rw [← hnew] at hbnd
  clear hlo hnew hSb
  have w2 : (low' : Int) % 4294967296 = ((low' % 4294967296 : Nat) : Int):=by omega
  have w3 : (low' : Int) / 4294967296 = ((low' / 4294967296 : Nat) : Int):=by omega
  have w4:=ZGi (a:=low' / 4294967296) (h:=high') (by omega)
  have w5 : (high' : Int) / 4294967296 = ((high' / 4294967296 : Nat) : Int):=by omega
  have hm1 : low' % 4294967296 < 4294967296:=Nat.mod_lt _ (by decide)
  have hq : low' / 4294967296 + high' % 4294967296 * 4294967296 < 18446744073709551616:=by omega
  have key : val (l ++ [low' % 4294967296]) + 4294967296 ^ (k + 1) * (low' / 4294967296 + high' % 4294967296 * 4294967296 + 18446744073709551616 * (high' / 4294967296)) = cV a b (k + 1):=by
   rw [Zdn,hl,Nat.pow_succ,cV]; exact hstep
  have B2:=(ZcW B (w:=((low' % 4294967296 : Nat) : Int)) (by omega) (by omega)).2
  rw [Int.toNat_natCast] at B2
  by_cases h2 : (b.length : Int)≤(k : Int)
  ·have e8 : (k : Int) - (b.length : Int) = ((k - b.length : Nat) : Int):=by omega
   have e9 : ((k - b.length : Nat) : Int) + 1 = (i0 : Int):=by omega
   repeat (first | (simp (maxSteps:=9^7) only [seval,evB,ZeK,e1,h1,h2,e8,e9,hr,w2,w3,w4,w5,e7 ]) | (simp (disch:=omega) only [dsB,Zkw B]))
   exact Zng ha hb hs ht m (k + 1) _ _ _ _ _ (by omega) B2 (ZbV hd hm1) (by rw [List.length_append,hl]; rfl) hq hbnd key
  ·have hz : i0 = 0:=by omega
   subst hz
   rw [cast0] at hr
   repeat (first | (simp (maxSteps:=9^7) only [seval,evB,ZeK,e1,h1,h2,hr,w2,w3,w4,w5,e7 ]) | (simp (disch:=omega) only [dsB,Zkw B]))
   exact Zng ha hb hs ht m (k + 1) _ _ _ _ _ (by omega) B2 (ZbV hd hm1) (by rw [List.length_append,hl]; rfl) hq hbnd key
theorem Zof (J : Al G T g) {z y : Bool} {a b : Nat} (hs : (dl a).length < 1073741824) (ht : (dl b).length < 1073741824) : ∃ z',run G T 158 [D z (dl a),D y (dl b)] = some (D z' (dl (a * b))):=by
 apply exP
 rw [Zac G T J.F.Zof]
 by_cases h1 : ((dl a).length : Int) = 0
 ·have ha : a = 0:=Zaz.1 (by omega)
  repeat (first | (simp (maxSteps:=9^7) only [seval,evB,Zet,h1]) | (simp (disch:=omega) only [dsB]))
  rw [ha,Nat.zero_mul,Zaq]
  exact Post.some ⟨true,rfl⟩
 ·by_cases h2 : ((dl b).length : Int) = 0
  ·have hb : b = 0:=Zaz.1 (by omega)
   repeat (first | (simp (maxSteps:=9^7) only [seval,evB,Zet,h1,h2]) | (simp (disch:=omega) only [dsB]))
   rw [hb,Nat.mul_zero,Zaq]
   exact Post.some ⟨true,rfl⟩
  ·obtain ⟨_,hr,e,h',v',l',c',rfl,B,hd,hl,hv⟩:=Zng (G:=G) (T:=T) (z:=z) (y:=y) (ZaC a) (ZaC b) hs ht ((dl a).length + (dl b).length) 0 .nil .nil [] 0 0 rfl Zpl Dg.nil rfl (by decide) (by decide) rfl
   rw [cast0] at hr
   have hva:=Zem (ZaC a)
   have hvb:=Zem (ZaC b)
   have hc0 : val l' = a * b:=by
    rw [ZaN] at hva hvb hv
    rw [ZaN] at hv
    have hlt : a * b < 4294967296 ^ ((dl a).length + (dl b).length):=by
     rw [Nat.pow_add]; exact Nat.mul_lt_mul_of_lt_of_lt hva hvb
    rcases Nat.eq_zero_or_pos c' with hc | hc
    ·rw [hc,Nat.mul_zero,Nat.add_zero] at hv; exact hv
    ·have:=Nat.mul_le_mul_left (4294967296 ^ ((dl a).length + (dl b).length)) hc
     omega
   obtain ⟨z',hz⟩:=ZdE J (z:=isN v') hd (by omega)
   rw [hc0] at hz
   repeat (first | (simp (maxSteps:=9^7) only [seval,evB,Zet,h1,h2,hr,B.snap,hz]) | (simp (disch:=omega) only [dsB]))
   exact Post.some ⟨_,rfl⟩
theorem ZlL (J : Al G T g) {z y : Bool} {a b : Dy} (ha : (dl a.m).length < 1073741824) (hb : (dl b.m).length < 1073741824) (ea : -274877906944 < a.e∧a.e < 274877906944) (eb : -274877906944 < b.e∧b.e < 274877906944) :
  ∃ z',run G T 154 [DyA z a,DyA y b] = some (DyA z' (mkD (a.n != b.n) (a.m * b.m) (a.e + b.e))):=by
 obtain ⟨n,m,e⟩:=a
 obtain ⟨n',m',e'⟩:=b
 simp only at *
 obtain ⟨z1,h1⟩:=Zof J (z:=z) (y:=y) (a:=m) (b:=m') ha hb
 have hl : (dl (m * m')).length < 17179869184:=by
  have h1:=ZbU.1 (Nat.le_refl (dl m).length)
  have h2:=ZbU.1 (Nat.le_refl (dl m').length)
  have h3 : (dl (m * m')).length≤(dl m).length + (dl m').length:=by
   rw [ZbU,Nat.pow_add]; exact Nat.mul_lt_mul_of_lt_of_lt h1 h2
  omega
 obtain ⟨z2,h2⟩:=Zbv J (n:=n != n') (z:=z1) (a:=m * m') (e:=e + e') hl (by omega)
 have w1 : IntKind.i64.wrap (e + e') = e + e':=Zad (by omega)
 have hne : (n != n') = !decide (n = n'):=by cases n <;> cases n' <;> rfl
 refine ⟨z2,?_⟩
 rw [hne] at h2 ⊢
 rw [Zac G T J.F.ZlL]
 simp only [DyA,A3] at *
 repeat' (first|simp (maxSteps:=9^7) only [seval,exC,Zir,h1,w1,h2]|simp (maxSteps:=9^7) (disch:=first|with_reducible assumption|omega) only [dxB]|(simp only [kdB];split)|(simp only [kvB];split))
theorem Zww {x y a b : Nat} (hx : blen x≤a) (hy : blen y≤b) : blen (x * y)≤a + b:=by
 refine Zae.2 ?_
 rw [Nat.pow_add]
 exact Nat.mul_lt_mul_of_lt_of_lt (Zae.1 hx) (Zae.1 hy)
theorem ZpS {n : Bool} {m : Nat} {e : Int} (h : m % 2 = 1) : mkD n m e = ⟨n,m,e⟩:=by
 rw [Zar (by omega),ZrQ h,Nat.pow_zero,Nat.div_one]; simp
theorem ZpT {n : Bool} {m : Nat} {e : Int} (h : m % 2 = 1) (j : Nat) : mkD n (m * 2 ^ j) (e - j) = ⟨n,m,e⟩:=by
 have hp:=Nat.two_pow_pos j
 have h0 : m * 2 ^ j≠0:=by
  intro hc
  rcases Nat.mul_eq_zero.1 hc with h1 | h1 <;> omega
 rw [Zar h0,Zei h,Nat.mul_div_cancel _ hp,show e - (j : Int) + j = e by omega]
theorem Zsx {a b : Nat} (ha : a % 2 = 1) (hb : b % 2 = 1) : a * b % 2 = 1:=by rw [Nat.mul_mod,ha,hb]
theorem ZAb (F : Fm) (md : Int) {n n' : Bool} {m m' : Nat} {e e' : Int} (ho : m % 2 = 1) (ho' : m' % 2 = 1) : quoW F md (mkD (n != n') (m * m') (e + e')) ⟨n',m',e'⟩ = rndW F md ⟨n,m,e⟩:=by
 have hF:=Zsg F
 rw [ZpS (Zsx ho ho')]
 unfold quoW
 simp only
 have hq:=ZlF (k:=64) (a:=m * m') (b:=m') (by have:=Zsx ho ho'; omega) (by omega)
 generalize quoN 64 (m * m') m' = N at *
 have e1 : m * m' * 2 ^ N = m * 2 ^ N * m':=by rw [Nat.mul_assoc,Nat.mul_assoc,Nat.mul_comm m']
 rw [e1,Nat.mul_div_cancel _ (by omega),Nat.mul_mod_left]
 rw [e1,Nat.mul_div_cancel _ (by omega)] at hq
 have h1:=Zoo F md n (M:=m * 2 ^ N) (e - N) (by omega)
 rw [ZpT ho] at h1
 rw [h1,show e + e' - e' - (N : Int) = e - N by omega]
 cases n <;> cases n' <;> rfl
def Fm.nan (F : Fm) : Nat:=F.most * 2 ^ F.fr + 2 ^ (F.fr - 1)
theorem ZjT {F : Fm} {w : Nat} (h : w < 2 * F.sg) : w = w % F.sg + F.sgn (F.ng w)∧w % F.sg = 2 ^ F.fr * F.ex w + F.fc w∧F.fc w < 2 ^ F.fr∧F.ex w≤F.most:=by
 have hp:=Nat.two_pow_pos F.fr
 have hsg : F.sg = 2 ^ F.fr * (F.most + 1):=by cases F <;> decide
 have h0 : 0 < F.sg:=by cases F <;> decide
 refine ⟨?_,(Nat.div_add_mod _ _).symm,Nat.mod_lt _ hp,?_⟩
 ·unfold Fm.ng Fm.sgn
  by_cases h1 : F.sg≤w
  ·rw [decide_eq_true h1,if_pos rfl,Nat.mod_eq_sub_mod h1,Nat.mod_eq_of_lt (by omega)]; omega
  ·rw [decide_eq_false h1,if_neg (by decide),Nat.mod_eq_of_lt (by omega)]; rfl
 ·have h1:=Nat.mod_lt w h0
  have : w % F.sg / 2 ^ F.fr < F.most + 1:=Nat.div_lt_of_lt_mul (by rw [← hsg]; exact h1)
  unfold Fm.ex; omega
theorem Zgp (F : Fm) (w : Nat) : F.cls w = 1∨F.cls w = 2∨F.cls w = 3∨F.cls w = 4∨F.cls w = 5:=by
 unfold Fm.cls; repeat' split
 all_goals omega
theorem ZwF {F : Fm} {w : Nat} (h : w < 2 * F.sg) : F.cls w = 1↔w % F.sg = 0:=by
 obtain ⟨h1,h2,h3,h4⟩:=ZjT h
 have hp:=Nat.two_pow_pos F.fr
 rw [h2]
 unfold Fm.cls
 generalize F.ex w = x at *
 generalize F.fc w = y at *
 constructor
 ·intro hc
  have hx : x = 0∧y = 0:=by
   by_cases a : x = 0
   ·by_cases b : y = 0
    ·exact ⟨a,b⟩
    ·rw [if_pos a,if_neg b] at hc; omega
   ·rw [if_neg a] at hc
    split at hc
    ·omega
    ·split at hc <;> omega
  rw [hx.1,hx.2]; rfl
 ·intro hc
  have hy : y = 0:=by omega
  have hx : x = 0:=by
   rcases Nat.mul_eq_zero.1 (show 2 ^ F.fr * x = 0 by omega) with q | q
   ·omega
   ·exact q
  rw [if_pos hx,if_pos hy]
theorem Zzv {F : Fm} {w : Nat} (h : w < 2 * F.sg) : F.cls w = 4↔w % F.sg = F.most * 2 ^ F.fr:=by
 obtain ⟨h1,h2,h3,h4⟩:=ZjT h
 have hp:=Nat.two_pow_pos F.fr
 have hm0 : 0 < F.most:=by cases F <;> decide
 rw [h2]
 unfold Fm.cls
 generalize F.ex w = x at *
 generalize F.fc w = y at *
 constructor
 ·intro hc
  by_cases a : x = 0
  ·rw [if_pos a] at hc; split at hc <;> omega
  ·rw [if_neg a] at hc
   by_cases b : x < F.most
   ·rw [if_pos b] at hc; omega
   ·rw [if_neg b] at hc
    by_cases c : y = 0
    ·rw [c,show x = F.most by omega,Nat.mul_comm]; rfl
    ·rw [if_neg c] at hc; omega
 ·intro hc
  have hx : x = F.most:=by
   rcases Nat.lt_or_ge x F.most with q | q
   ·have:=Nat.mul_le_mul_left (2 ^ F.fr) q
    rw [Nat.mul_succ,Nat.mul_comm (2 ^ F.fr) F.most] at this
    omega
   ·omega
  have hy : y = 0:=by rw [hx,Nat.mul_comm] at hc; omega
  rw [if_neg (by omega),if_neg (by omega),if_pos hy]
theorem Zkf {F : Fm} {w : Nat} (h : w < 2 * F.sg) (hc : F.cls w = 1) : w = F.sgn (F.ng w)∧F.val w = ⟨false,0,0⟩:=by
 have h1:=(ZjT h).1
 rw [(ZwF h).1 hc,Nat.zero_add] at h1
 refine ⟨h1,?_⟩
 rw [h1]
 have:=Zku F (F.ng w)
 rw [Nat.zero_add] at this
 exact this
theorem ZwE {F : Fm} {w : Nat} (h : w < 2 * F.sg) (hc : F.cls w = 4) : w = F.inf (F.ng w):=by
 have h1:=(ZjT h).1
 rw [(Zzv h).1 hc] at h1
 exact h1
theorem ZDY {F : Fm} {w : Nat} (h : w < 2 * F.sg) (h1 : F.cls w≠1) (h2 : F.fin w) : (F.val w).m≠0:=by
 obtain ⟨s,n,hw,q1,q2,q3⟩:=Zpj h
 have h0 : s≠0:=by
  rintro rfl
  apply h1
  rw [ZwF h,hw]
  exact (Zdt n q1).1
 rw [hw]; exact (Zov F 1 n (q2 h2) h0).2
def sumW (F : Fm) (md : Int) (d : Dy) : Nat × Nat:=if d.m = 0 then (F.sgn (decide (md = 5)),0) else rndW F md d
def addP (F : Fm) (md : Int) (c : Int) (n : Bool) (d : Dy) (c' : Int) (n' : Bool) (d' : Dy) : Nat × Nat :=
 if c = 5∨c' = 5 then (F.nan,0)
 else if c = 4∧c' = 4∧n≠n' then (F.nan,1)
 else if c = 4 then (F.inf n,0)
 else if c' = 4 then (F.inf n',0)
 else if c = 1∧c' = 1∧n = n' then (F.sgn n,0)
 else sumW F md (addD d d')
def mulD (a b : Dy) : Dy:=mkD (a.n != b.n) (a.m * b.m) (a.e + b.e)
def mulP (F : Fm) (md : Int) (c : Int) (n : Bool) (d : Dy) (c' : Int) (n' : Bool) (d' : Dy) : Nat × Nat :=
 if c = 5∨c' = 5 then (F.nan,0)
 else if (c = 4∨c' = 4)∧(c = 1∨c' = 1) then (F.nan,1)
 else if c = 4∨c' = 4 then (F.inf (n != n'),0)
 else if c = 1∨c' = 1 then (F.sgn (n != n'),0)
 else sumW F md (mulD d d')
def divP (F : Fm) (md : Int) (c : Int) (n : Bool) (d : Dy) (c' : Int) (n' : Bool) (d' : Dy) : Nat × Nat :=
 if c = 5∨c' = 5 then (F.nan,0)
 else if c = c'∧(c = 1∨c = 4) then (F.nan,1)
 else if c = 4 then (F.inf (n != n'),0)
 else if c' = 1 then (F.inf (n != n'),2)
 else if c = 1∨c' = 4 then (F.sgn (n != n'),0)
 else quoW F md d d'
def Fm.vl (F : Fm) (w : Nat) : Dy:=if F.fin w then F.val w else ⟨false,0,0⟩
def addW (F : Fm) (md : Int) (a b : Nat) : Nat × Nat:=addP F md (F.cls a) (F.ng a) (F.vl a) (F.cls b) (F.ng b) (F.vl b)
def subW (F : Fm) (md : Int) (a b : Nat) : Nat × Nat:=addP F md (F.cls a) (F.ng a) (F.vl a) (F.cls b) (!F.ng b) (negD (F.vl b))
def mulW2 (F : Fm) (md : Int) (a b : Nat) : Nat × Nat:=mulP F md (F.cls a) (F.ng a) (F.vl a) (F.cls b) (F.ng b) (F.vl b)
def divW2 (F : Fm) (md : Int) (a b : Nat) : Nat × Nat:=divP F md (F.cls a) (F.ng a) (F.vl a) (F.cls b) (F.ng b) (F.vl b)
noncomputable def sqrtW (F : Fm) (md : Int) (a : Nat) : Nat × Nat :=
 if F.cls a = 5 then (F.nan,0) else if F.cls a = 1 then (F.sgn (F.ng a),0) else if F.ng a then (F.nan,1) else if F.cls a = 4 then (F.inf false,0) else rootW F md (F.vl a)
theorem ZqD {a b : Dy} (ha : Nz a) (hb : Nz b) : addD a b = addD b a:=by
 unfold addD
 by_cases h1 : a.m = 0
 ·by_cases h2 : b.m = 0
  ·rw [if_pos h1,if_pos h2,ha.1 h1,hb.1 h2]
  ·rw [if_pos h1,if_neg h2,if_pos h1]
 ·by_cases h2 : b.m = 0
  ·rw [if_neg h1,if_pos h2,if_pos h2]
  ·rw [if_neg h1,if_neg h2,if_neg h2,if_neg h1,Int.min_comm b.e a.e]
   generalize a.m * 2 ^ (a.e - min a.e b.e).toNat = x
   generalize b.m * 2 ^ (b.e - min a.e b.e).toNat = y
   by_cases h3 : a.n = b.n
   ·rw [if_pos h3,if_pos h3.symm,h3,Nat.add_comm]
   ·rw [if_neg h3,if_neg (show ¬ b.n = a.n from fun h => h3 h.symm)]
    by_cases h4 : y≤x
    ·by_cases h5 : x≤y
     ·rw [if_pos h4,if_pos h5,show x = y by omega,Nat.sub_self]; rfl
     ·rw [if_pos h4,if_neg h5]
    ·rw [if_neg h4,if_pos (by omega)]
def Fm.flip (F : Fm) (w : Nat) : Nat:=w % F.sg + F.sgn (!F.ng w)
theorem Zfw (F : Fm) (w : Nat) : Nz (F.vl w):=by
 unfold Fm.vl; split
 ·unfold Fm.val; split <;> exact ZkY _ _ _
 ·exact ⟨fun _ => rfl,fun h => absurd rfl h⟩
theorem Zfq (F : Fm) (w : Nat) : Bd (F.vl w) 4096:=by
 unfold Fm.vl; split
 ·rename_i h; exact ZEg F h
 ·exact ⟨by simp only [Zal]; omega,by simp,by simp⟩
theorem ZaE {F : Fm} {w : Nat} : F.fin w↔F.cls w = 1∨F.cls w = 2∨F.cls w = 3:=by
 have h1:=Zxb F w
 have h2:=Zgp F w
 constructor
 ·intro h; have:=h1.1 h; omega
 ·intro h; exact h1.2 (by omega)
theorem Zhg {l : List Nat} {i v : Nat} (h : i < l.length) : val ((l.set i v).take (i + 1)) = val (l.take i) + 4294967296 ^ i * v:=by
 rw [Zab,List.take_set_of_le (Nat.le_refl i)]
 congr 2
 rw [Zfr (by rw [List.length_set]; exact h),List.getElem_set_self]
theorem Zlz (J : Al G T g) {A B : List Nat} {z y : Bool} {b : Nat} (hA : Dg A) (hB : Dg B) (hs : A.length < 17179869184) (ht : B.length≤A.length) : ∀ (m i : Nat) (h : Heap) (l : List Nat) (c : Nat),
  m + i = A.length→Holds h b l→Dg l→l.length = A.length + 1→c≤1→val (l.take i) + 4294967296 ^ i * c = val (A.take i) + val (B.take i) →
  Post (evL G T ZgD [(0,D z A),(1,D y B),(6,.own b 0 (A.length + 1) 1),(7,.int .u32 (c : Int)),(27,.int .i64 ((A.length : Nat) : Int)),(28,.int .i64 (i : Int))] h) fun r =>
   ∃ e h' l' c',r = (.exit 0,(0,D z A) :: (1,D y B) :: (6,.own b 0 (A.length + 1) 1) :: (7,.int .u32 ((c' : Nat) : Int)) :: e,h')∧Holds h' b l'∧Dg l'∧l'.length = A.length + 1∧c'≤1∧val (l'.take A.length) + 4294967296 ^ A.length * c' = val A + val B
 | 0,i,h,l,c,hm,H,hd,hl,hc,he => by
  rw [Zaf G T (c:=ZgD) rfl]
  have h1 : ¬ (i : Int) < (A.length : Int):=by omega
  repeat (first | (simp (maxSteps:=9^7) only [seval,evB,ZgC,h1]) | (simp (disch:=omega) only [dsB]))
  obtain rfl : i = A.length:=by omega
  rw [List.take_length,List.take_of_length_le ht] at he
  exact Post.some ⟨_,_,_,_,rfl,H,hd,hl,hc,he⟩
 | m + 1,i,h,l,c,hm,H,hd,hl,hc,he => by
  rw [Zaf G T (c:=ZgD) rfl]
  have h1 : (i : Int) < (A.length : Int):=by omega
  have e7 : (i : Int) + 1 = ((i + 1 : Nat) : Int):=by omega
  have hx:=hA.dg i
  have hy:=hB.dg i
  have hil : i < l.length:=by omega
  have hb:=Zhv J (x:=dg A i) (y:=dg B i) (w:=c) (d:=(dg A i + dg B i + c) % 4294967296) (z:=(dg A i + dg B i + c) / 4294967296) hx hy hc (Nat.mod_lt _ (by decide)) (by omega) (by omega)
  have key : val ((l.set i ((dg A i + dg B i + c) % 4294967296)).take (i + 1)) + 4294967296 ^ (i + 1) * ((dg A i + dg B i + c) / 4294967296) = val (A.take (i + 1)) + val (B.take (i + 1)):=by
   rw [Zhg hil,Zab,Zab,Nat.pow_succ,Nat.mul_assoc,Nat.add_assoc,← Nat.mul_add,Nat.mod_add_div,Nat.mul_add,Nat.mul_add]
   omega
  have hz : (dg A i + dg B i + c) / 4294967296≤1:=by omega
  have hm1 : (dg A i + dg B i + c) % 4294967296 < 4294967296:=Nat.mod_lt _ (by decide)
  by_cases h2 : (i : Int) < (B.length : Int)
  ·repeat (first | (simp (maxSteps:=9^7) only [seval,evB,ZgC,h1,h2,hb,e7 ]) | (simp (disch:=omega) only [dsB,Zdu H]))
   exact Zlz J hA hB hs ht m (i + 1) _ _ _ (by omega) (H.put _) (ZeZ hd hm1) (by rw [List.length_set]; exact hl) hz key
  ·have hg : dg B i = 0:=ZiA (by omega)
   rw [hg] at hb key hz hm1
   rw [cast0] at hb
   repeat (first | (simp (maxSteps:=9^7) only [seval,evB,ZgC,h1,h2,hb,e7 ]) | (simp (disch:=omega) only [dsB,Zdu H]))
   exact Zlz J hA hB hs ht m (i + 1) _ _ _ (by omega) (H.put _) (ZeZ hd hm1) (by rw [List.length_set]; exact hl) hz key
theorem ZnW (J : Al G T g) {A B : List Nat} {z y : Bool} {b : Nat} (hA : Dg A) (hB : Dg B) (hs : A.length < 17179869184) (ht : B.length≤A.length) : ∀ (m i : Nat) (h : Heap) (l : List Nat) (c : Nat),
  m + i = A.length→Holds h b l→Dg l→l.length = A.length→c≤1→val (l.take i) + val (B.take i) = val (A.take i) + 4294967296 ^ i * c →
  Post (evL G T ZgL [(0,D z A),(1,D y B),(5,.own b 0 A.length 1),(6,.int .u32 (c : Int)),(13,.int .i64 ((A.length : Nat) : Int)),(14,.int .i64 (i : Int))] h) fun r =>
   ∃ e h' l' c',r = (.exit 0,(0,D z A) :: (1,D y B) :: (5,.own b 0 A.length 1) :: (6,.int .u32 ((c' : Nat) : Int)) :: e,h')∧Holds h' b l'∧Dg l'∧l'.length = A.length∧c'≤1∧val l' + val B = val A + 4294967296 ^ A.length * c'
 | 0,i,h,l,c,hm,H,hd,hl,hc,he => by
  rw [Zaf G T (c:=ZgL) rfl]
  have h1 : ¬ (i : Int) < (A.length : Int):=by omega
  repeat (first | (simp (maxSteps:=9^7) only [seval,evB,ZgK,h1]) | (simp (disch:=omega) only [dsB]))
  obtain rfl : i = A.length:=by omega
  rw [List.take_length,List.take_of_length_le ht,List.take_of_length_le (by omega)] at he
  exact Post.some ⟨_,_,_,_,rfl,H,hd,hl,hc,he⟩
 | m + 1,i,h,l,c,hm,H,hd,hl,hc,he => by
  rw [Zaf G T (c:=ZgL) rfl]
  have h1 : (i : Int) < (A.length : Int):=by omega
  have e7 : (i : Int) + 1 = ((i + 1 : Nat) : Int):=by omega
  have hx:=hA.dg i
  have hy:=hB.dg i
  have hil : i < l.length:=by omega
  obtain ⟨d,q,hdq,hd1,hq⟩ : ∃ d q,d + dg B i + c = dg A i + 4294967296 * q∧d < 4294967296∧q≤1:=by
   by_cases hlt : dg A i < dg B i + c
   ·exact ⟨dg A i + 4294967296 - (dg B i + c),1,by omega,by omega,by omega⟩
   ·exact ⟨dg A i - (dg B i + c),0,by omega,by omega,by omega⟩
  have hb:=Zhw J (x:=dg A i) (y:=dg B i) (w:=c) (d:=d) (z:=q) hx hy hc hd1 hq hdq
  have key : val ((l.set i d).take (i + 1)) + val (B.take (i + 1)) = val (A.take (i + 1)) + 4294967296 ^ (i + 1) * q:=by
   rw [Zhg hil,Zab,Zab,Nat.pow_succ,Nat.mul_assoc]
   have h2 : 4294967296 ^ i * d + 4294967296 ^ i * dg B i + 4294967296 ^ i * c = 4294967296 ^ i * dg A i + 4294967296 ^ i * (4294967296 * q):=by
    rw [← Nat.mul_add,← Nat.mul_add,← Nat.mul_add,hdq]
   omega
  by_cases h2 : (i : Int) < (B.length : Int)
  ·repeat (first | (simp (maxSteps:=9^7) only [seval,evB,ZgK,h1,h2,hb,e7 ]) | (simp (disch:=omega) only [dsB,Zdu H]))
   exact ZnW J hA hB hs ht m (i + 1) _ _ _ (by omega) (H.put _) (ZeZ hd hd1) (by rw [List.length_set]; exact hl) hq key
  ·have hg : dg B i = 0:=ZiA (by omega)
   rw [hg,cast0] at hb
   repeat (first | (simp (maxSteps:=9^7) only [seval,evB,ZgK,h1,h2,hb,e7 ]) | (simp (disch:=omega) only [dsB,Zdu H]))
   exact ZnW J hA hB hs ht m (i + 1) _ _ _ (by omega) (H.put _) (ZeZ hd hd1) (by rw [List.length_set]; exact hl) hq key
theorem Zjy (J : Al G T g) {z : Bool} {l : List Nat} (h : l.length≤4096) : run G T 117 [D z l] = some (.tup [D z l,.int .i64 0]):=by
 rw [Zac G T J.A.Zjy]
 have h1 : ¬ (4096 : Int) < (l.length : Int):=by omega
 repeat (first | (simp (maxSteps:=9^7) only [seval,evB,Zih,h1]) | (simp (disch:=omega) only [dsB]))
theorem Zsu (J : Al G T g) {z y : Bool} {a b : Nat} (ha : (dl a).length < 17179869184) (hab : b≤a) : ∃ z',run G T 116 [D z (dl a),D y (dl b)] = some (D z' (dl (a - b))):=by
 have hlen : (dl b).length≤(dl a).length:=by
  rw [ZbU]; exact Nat.lt_of_le_of_lt hab (ZbU.1 (Nat.le_refl _))
 obtain ⟨_,hr,e,h',l',c',rfl,H,hd,hl,hc,hv⟩:=ZnW (G:=G) (T:=T) (z:=z) (y:=y) (b:=Heap.nil.b.length) J (ZaC a) (ZaC b) ha hlen (dl a).length 0 (new .nil (List.replicate (dl a).length 0)) _ 0 (by omega) (ZbN FreH.nil _) (Zjb _) (by rw [List.length_replicate]) (by omega) (by simp [val])
 rw [cast0] at hr
 rw [ZaN,ZaN] at hv
 have hlt:=Zem hd
 have hc0 : c' = 0:=by
  rcases Nat.eq_zero_or_pos c' with q | q
  ·exact q
  ·have : c' = 1:=by omega
   rw [this,Nat.mul_one,← hl] at hv; omega
 rw [hc0,Nat.mul_zero,Nat.add_zero] at hv
 have hv2 : val l' = a - b:=by omega
 have hsn:=Zcq H (n:=(dl a).length) (by omega)
 rw [← hl,List.take_length] at hsn
 obtain ⟨z',hz⟩:=ZbM J (z:=false) hd (by omega)
 rw [hl] at hsn
 refine ⟨z',?_⟩
 rw [Zac G T J.A.Zsu,← hv2]
 repeat (first | (simp (maxSteps:=9^7) only [seval,evB,Zlg,hr,hsn,hz]) | (simp (disch:=omega) only [dsB]))
theorem ZpY (J : Al G T g) {z y : Bool} {a b : Nat} (ha : mayL (dl a) = true) (hb : mayL (dl b) = true) (hab : b≤a) : ∃ z',run G T 103 [D z (dl a),D y (dl b)] = some (.tup [D z' (dl (a - b)),.int .i64 0]):=by
 have la:=(ZaV.1 ha).1
 have lb:=(ZaV.1 hb).1
 have h1:=Zjx (G:=G) J (z:=z) (y:=y) (a:=dl a) (b:=dl b)
 rw [ha,hb,Bool.and_self] at h1
 have h2:=ZkM (G:=G) J (z:=z) (y:=y) (a:=a) (b:=b) (by omega) (by omega)
 have h3 : ¬ cmpN a b < 0:=by rw [ZfO]; omega
 obtain ⟨z',h4⟩:=Zsu J (z:=z) (y:=y) (a:=a) (b:=b) (by omega) hab
 refine ⟨z',?_⟩
 rw [Zac G T J.A.ZpY]
 repeat' (first|simp (maxSteps:=9^7) only [seval,exC,Zld,h1,h2,h3,h4]|simp (maxSteps:=9^7) (disch:=first|with_reducible assumption|omega) only [dxB]|(simp only [kdB];split)|(simp only [kvB];split))
theorem Zss (J : Al G T g) {z y : Bool} {a b : Nat} (ha : mayL (dl a) = true) (hb : mayL (dl b) = true) : run G T 104 [D z (dl a),D y (dl b)] = some (.tup [.int .i64 (cmpN a b),.int .i64 0]):=by
 have la:=(ZaV.1 ha).1
 have lb:=(ZaV.1 hb).1
 have h1:=Zjx (G:=G) J (z:=z) (y:=y) (a:=dl a) (b:=dl b)
 rw [ha,hb,Bool.and_self] at h1
 have h2:=ZkM (G:=G) J (z:=z) (y:=y) (a:=a) (b:=b) (by omega) (by omega)
 rw [Zac G T J.A.Zss]
 repeat' (first|simp (maxSteps:=9^7) only [seval,exC,Zlb,h1,h2]|simp (maxSteps:=9^7) (disch:=first|with_reducible assumption|omega) only [dxB]|(simp only [kdB];split)|(simp only [kvB];split))
theorem Zsr (J : Al G T g) {z y : Bool} {a b : Nat} (ha : mayL (dl a) = true) (hb : mayL (dl b) = true) (hab : (dl b).length≤(dl a).length) (hs : (dl (a + b)).length≤4096) : ∃ z',run G T 105 [D z (dl a),D y (dl b)] = some (.tup [D z' (dl (a + b)),.int .i64 0]):=by
 have la:=(ZaV.1 ha).1
 have lb:=(ZaV.1 hb).1
 have h1:=Zjx (G:=G) J (z:=z) (y:=y) (a:=dl a) (b:=dl b)
 rw [ha,hb,Bool.and_self] at h1
 have h2 : ¬ ((dl a).length : Int) < ((dl b).length : Int):=by omega
 obtain ⟨_,hr,e,h',l',c',rfl,H,hd,hl,hc,hv⟩:=Zlz (G:=G) (T:=T) (z:=z) (y:=y) (b:=1) J (ZaC a) (ZaC b) (by omega) hab (dl a).length 0 (new ⟨[⟨[D z (dl a),D y (dl b)],false⟩],fz1 (AV.bool true) [0]⟩ (List.replicate ((dl a).length + 1) 0)) _ 0 (by omega) (ZbN (h:=⟨[⟨[D z (dl a),D y (dl b)],false⟩],fz1 (AV.bool true) [0]⟩) (fun _ h => absurd h List.not_mem_nil) _) (Zjb _) (by rw [List.length_replicate]) (by omega) (by simp [val])
 rw [cast0] at hr
 rw [ZaN,ZaN] at hv
 have hil : (dl a).length < l'.length:=by omega
 have hvs:=Zhg (v:=c') hil
 rw [hv,List.take_of_length_le (by rw [List.length_set]; omega)] at hvs
 have H2:=H.put (l'.set (dl a).length c')
 have hd2 : Dg (l'.set (dl a).length c'):=ZeZ hd (by omega)
 have hl2 : (l'.set (dl a).length c').length = (dl a).length + 1:=by rw [List.length_set]; exact hl
 have hsn:=Zcq H2 (n:=(dl a).length + 1) (by omega)
 rw [← hl2,List.take_length] at hsn
 obtain ⟨z',hz⟩:=ZbM J (z:=false) hd2 (by omega)
 rw [hl2] at hsn
 rw [hvs] at hz
 have hbd:=Zjy J (z:=z') hs
 have e8 : ((dl a).length : Int) + 1 = (((dl a).length + 1 : Nat) : Int):=by omega
 refine ⟨z',?_⟩
 rw [Zac G T J.A.ZpW]
 repeat' (first|simp (maxSteps:=9^7) only [seval,exC,Zjd,h1,h2,e8,hr,hsn,hz,hbd ]|simp (maxSteps:=9^7) (disch:=first|with_reducible assumption|omega) only [dxB,Zdu H]|(simp only [kdB];split)|(simp only [kvB];split))
theorem ZpW (J : Al G T g) {z y : Bool} {a b : Nat} (ha : mayL (dl a) = true) (hb : mayL (dl b) = true) (hs : (dl (a + b)).length≤4096) : ∃ z',run G T 105 [D z (dl a),D y (dl b)] = some (.tup [D z' (dl (a + b)),.int .i64 0]):=by
 have la:=(ZaV.1 ha).1
 have lb:=(ZaV.1 hb).1
 by_cases hab : (dl b).length≤(dl a).length
 ·exact Zsr J ha hb hab hs
 have h1:=Zjx (G:=G) J (z:=z) (y:=y) (a:=dl a) (b:=dl b)
 rw [ha,hb,Bool.and_self] at h1
 have h2 : ((dl a).length : Int) < ((dl b).length : Int):=by omega
 obtain ⟨_,hr,e,h',l',c',rfl,H,hd,hl,hc,hv⟩:=Zlz (G:=G) (T:=T) (z:=y) (y:=z) (b:=1) J (ZaC b) (ZaC a) (by omega) (by omega) (dl b).length 0 (new ⟨[⟨[D z (dl a),D y (dl b)],false⟩],fz1 (AV.bool true) [0]⟩ (List.replicate ((dl b).length + 1) 0)) _ 0 (by omega) (ZbN (h:=⟨[⟨[D z (dl a),D y (dl b)],false⟩],fz1 (AV.bool true) [0]⟩) (fun _ h => absurd h List.not_mem_nil) _) (Zjb _) (by rw [List.length_replicate]) (by omega) (by simp [val])
 rw [cast0] at hr
 rw [ZaN,ZaN,Nat.add_comm b a] at hv
 have hil : (dl b).length < l'.length:=by omega
 have hvs:=Zhg (v:=c') hil
 rw [hv,List.take_of_length_le (by rw [List.length_set]; omega)] at hvs
 have H2:=H.put (l'.set (dl b).length c')
 have hd2 : Dg (l'.set (dl b).length c'):=ZeZ hd (by omega)
 have hl2 : (l'.set (dl b).length c').length = (dl b).length + 1:=by rw [List.length_set]; exact hl
 have hsn:=Zcq H2 (n:=(dl b).length + 1) (by omega)
 rw [← hl2,List.take_length] at hsn
 obtain ⟨z',hz⟩:=ZbM J (z:=false) hd2 (by omega)
 rw [hl2] at hsn
 rw [hvs] at hz
 have hbd:=Zjy J (z:=z') hs
 have e8 : ((dl b).length : Int) + 1 = (((dl b).length + 1 : Nat) : Int):=by omega
 refine ⟨z',?_⟩
 rw [Zac G T J.A.ZpW]
 repeat' (first|simp (maxSteps:=9^7) only [seval,exC,Zjd,h1,h2,e8,hr,hsn,hz,hbd ]|simp (maxSteps:=9^7) (disch:=first|with_reducible assumption|omega) only [dxB,Zdu H]|(simp only [kdB];split)|(simp only [kvB];split))
theorem Zwv {x y a b : Nat} (hx : blen x≤a) (hy : blen y≤b) : blen (x * y)≤a + b:=by
 refine Zae.2 ?_
 rw [Nat.pow_add]
 exact Nat.mul_lt_mul_of_lt_of_lt (Zae.1 hx) (Zae.1 hy)
theorem Zst (J : Al G T g) {z y : Bool} {a b : Nat} (ha : mayL (dl a) = true) (hb : mayL (dl b) = true) (hs : (dl a).length + (dl b).length≤4096) : ∃ z',run G T 197 [D z (dl a),D y (dl b)] = some (.tup [D z' (dl (a * b)),.int .i64 0]):=by
 have h1:=Zjx (G:=G) J (z:=z) (y:=y) (a:=dl a) (b:=dl b)
 rw [ha,hb,Bool.and_self] at h1
 obtain ⟨z',h2⟩:=Zqa J (z:=z) (y:=y) (a:=a) (b:=b) (by omega)
 have hl : (dl (a * b)).length≤4096:=by
  have e1:=ZbU.1 (Nat.le_refl (dl a).length)
  have e2:=ZbU.1 (Nat.le_refl (dl b).length)
  have : (dl (a * b)).length≤(dl a).length + (dl b).length:=by
   rw [ZbU,Nat.pow_add]; exact Nat.mul_lt_mul_of_lt_of_lt e1 e2
  omega
 have h3:=Zjy J (z:=z') hl
 have c1 : ¬ (4096 : Int) < ((dl a).length : Int) + ((dl b).length : Int) - 1:=by omega
 refine ⟨z',?_⟩
 rw [Zac G T J.U.Zst]
 by_cases k1 : (0 : Int) < ((dl a).length : Int)
 ·by_cases k2 : (0 : Int) < ((dl b).length : Int)
  ·repeat' (first|simp (maxSteps:=9^7) only [seval,exC,ZhA,h1,h2,h3,c1,k1,k2]|simp (maxSteps:=9^7) (disch:=first|with_reducible assumption|omega) only [dxB]|(simp only [kdB];split)|(simp only [kvB];split))
  ·repeat' (first|simp (maxSteps:=9^7) only [seval,exC,ZhA,h1,h2,h3,c1,k1,k2]|simp (maxSteps:=9^7) (disch:=first|with_reducible assumption|omega) only [dxB]|(simp only [kdB];split)|(simp only [kvB];split))
 ·repeat' (first|simp (maxSteps:=9^7) only [seval,exC,ZhA,h1,h2,h3,c1,k1]|simp (maxSteps:=9^7) (disch:=first|with_reducible assumption|omega) only [dxB]|(simp only [kdB];split)|(simp only [kvB];split))
theorem Zln (J : Al G T g) {n z : Bool} {l : List Nat} {e : Int} (hl : l.length < 549755813888) : ∃ z',run G T 205 [A3 n (D z l) e] = some (A3 n (D z' l) e):=by
 apply exP
 rw [Zac G T J.U.Zln]
 cases l with
 | nil =>
  simp only [A3] at *
  repeat' (first|simp (maxSteps:=9^7) only [seval,exC,Zhy,ZsU]|simp (maxSteps:=9^7) (disch:=first|with_reducible assumption|omega) only [dxB]|(simp only [kdB];split)|(simp only [kvB];split))
  exact ⟨_,rfl,true,rfl⟩
 | cons a l =>
  have ha : appV ⟨[⟨[.bool n,D z (a :: l),.int .i64 e],false⟩,⟨[.bool false,.nil,.int .i64 0],false⟩],[]⟩ 1 4 .nil (D z (a :: l)) =
    some (.own 2 0 (a :: l).length 1,⟨[⟨[.bool n,D z (a :: l),.int .i64 e],false⟩,⟨[.bool false,.nil,.int .i64 0],false⟩,⟨cells (a :: l),false⟩],[]⟩) :=
   Zwa (h:=⟨[⟨[.bool n,D z (a :: l),.int .i64 e],false⟩,⟨[.bool false,.nil,.int .i64 0],false⟩],[]⟩) (z:=z) (l:=a :: l) (by simp) hl
  simp only [A3] at *
  have hsub : sub (cells (a :: l)) 0 (l.length + 1) = some (cells (a :: l)):=ZsG (a :: l)
  repeat' (first|simp (maxSteps:=9^7) only [seval,exC,Zhy,ha,hsub,Zuv]|simp (maxSteps:=9^7) (disch:=first|with_reducible assumption|omega) only [dxB]|(simp only [kdB];split)|(simp only [kvB];split))
  exact ⟨_,rfl,false,rfl⟩
theorem ZkE (J : Al G T g) {n z s : Bool} {l : List Nat} {e : Int} (hl : l.length < 549755813888) : ∃ z',run G T 198 [A3 n (D z l) e,.bool s] = some (A3 (s && decide (0 < l.length)) (D z' l) e):=by
 obtain ⟨z',h1⟩:=Zln J (n:=n) (z:=z) (l:=l) (e:=e) hl
 refine ⟨z',?_⟩
 rw [Zac G T J.U.ZkE]
 have e1 : decide ((0 : Int) < (l.length : Int)) = decide (0 < l.length):=by congr 1; apply propext; omega
 simp only [A3] at *
 cases s <;> (repeat' (first|simp (maxSteps:=9^7) only [seval,exC,Zfx,h1,e1]|simp (maxSteps:=9^7) (disch:=first|with_reducible assumption|omega) only [dxB]|(simp only [kdB];split)|(simp only [kvB];split)); all_goals try rfl)
theorem Zpy (J : Al G T g) {z : Bool} {d : Dy} (hd : mayD d.n (dl d.m) d.e = true) : ∃ z',run G T 184 [DyA z d] = some (.tup [DyA z' (negD d),.int .i64 0]):=by
 obtain ⟨f1,f2,f3,f4,f5⟩:=ZcN hd
 have hl:=(ZaV.1 f1).1
 have h1:=Zdl J d.n z (ZaC d.m) d.e
 rw [hd] at h1
 obtain ⟨z',h2⟩:=ZkE J (n:=d.n) (z:=z) (s:=!d.n) (l:=dl d.m) (e:=d.e) (by omega)
 refine ⟨z',?_⟩
 have hv : A3 (!d.n && decide (0 < (dl d.m).length)) (D z' (dl d.m)) d.e = DyA z' (negD d):=by
  by_cases h0 : d.m = 0
  ·have hz:=f2 (Zaz.2 h0)
   unfold negD
   rw [if_pos h0,DyA,hz.1,h0,Zaq]; rfl
  ·rw [ZFW h0]
   have : 0 < (dl d.m).length:=Nat.pos_of_ne_zero (fun hc => h0 (Zaz.1 hc))
   rw [decide_eq_true this,Bool.and_true]; rfl
 rw [hv] at h2
 rw [Zac G T J.U.Zpy]
 obtain ⟨n,m,e⟩:=d
 simp only [DyA,A3] at *
 cases n <;> (simp only [Bool.not_true,Bool.not_false] at h2; repeat' (first|simp (maxSteps:=9^7) only [seval,exC,ZjY,h1,h2]|simp (maxSteps:=9^7) (disch:=first|with_reducible assumption|omega) only [dxB]|(simp only [kdB];split)|(simp only [kvB];split)))
def joinD (p : Bool) (x : Nat) (q : Bool) (y : Nat) (e : Int) : Dy:=if p = q then mkD p (x + y) e else if y≤x then mkD p (x - y) e else mkD q (y - x) e
theorem ZoW {m : Nat} {e : Int} (hb : blen m≤131072) (he : -16000000 < e∧e < 16000000) : m = 0∨(-16777216≤e + (tz m : Int)∧e + (tz m : Int)≤16777216):=by
 by_cases h0 : m = 0
 ·exact Or.inl h0
 ·right; have:=Zfu h0; omega
theorem Zzt {x y : Nat} {K : Nat} (hx : blen x≤K) (hy : blen y≤K) : blen (x + y)≤K + 1:=by
 refine Zae.2 ?_
 have h1:=Zae.1 hx
 have h2:=Zae.1 hy
 rw [Nat.pow_succ]; omega
theorem ZhH (J : Al G T g) {p q z y : Bool} {x w : Nat} {e : Int} (hx : blen x≤131071) (hw : blen w≤131071) (he : -16000000 < e∧e < 16000000) :
  ∃ z',run G T 208 [.bool p,D z (dl x),.bool q,D y (dl w),.int .i64 e] = some (.tup [DyA z' (joinD p x q w e),.int .i64 0]):=by
 have mx : mayL (dl x) = true:=Zau (by omega)
 have mw : mayL (dl w) = true:=Zau (by omega)
 have hxw:=Zzt hx hw
 by_cases h1 : p = q
 ·have hl:=Zaa (x + w)
  obtain ⟨z1,a1⟩:=ZpW J (z:=z) (y:=y) (a:=x) (b:=w) mx mw (by omega)
  obtain ⟨z2,a2⟩:=ZbQ J (n:=p) (z:=z1) (a:=x + w) (e:=e) (Zau (by omega)) (ZoW (by omega) he) (by omega)
  refine ⟨z2,?_⟩
  unfold joinD
  rw [if_pos h1,Zac G T J.U.ZhH]
  simp only [DyA,A3] at *
  subst h1
  cases p <;> repeat' (first|simp (maxSteps:=9^7) only [seval,exC,Zeq,a1,a2]|simp (maxSteps:=9^7) (disch:=first|with_reducible assumption|omega) only [dxB]|(simp only [kdB];split)|(simp only [kvB];split))
 ·have c0:=Zss J (z:=z) (y:=y) (a:=x) (b:=w) mx mw
  by_cases h2 : w≤x
  ·have hb:=ZaF (Nat.sub_le x w)
   have c1 : ¬ cmpN x w < 0:=by rw [ZfO]; omega
   obtain ⟨z1,a1⟩:=ZpY J (z:=z) (y:=y) (a:=x) (b:=w) mx mw h2
   obtain ⟨z2,a2⟩:=ZbQ J (n:=p) (z:=z1) (a:=x - w) (e:=e) (Zau (by omega)) (ZoW (by omega) he) (by omega)
   refine ⟨z2,?_⟩
   unfold joinD
   rw [if_neg h1,if_pos h2,Zac G T J.U.ZhH]
   simp only [DyA,A3] at *
   cases p <;> cases q <;> first | (exact absurd rfl h1) | (repeat' (first|simp (maxSteps:=9^7) only [seval,exC,Zeq,c0,c1,a1,a2]|simp (maxSteps:=9^7) (disch:=first|with_reducible assumption|omega) only [dxB]|(simp only [kdB];split)|(simp only [kvB];split)))
  ·have hb:=ZaF (Nat.sub_le w x)
   have c1 : cmpN x w < 0:=by rw [ZfO]; omega
   obtain ⟨z1,a1⟩:=ZpY J (z:=y) (y:=z) (a:=w) (b:=x) mw mx (by omega)
   obtain ⟨z2,a2⟩:=ZbQ J (n:=q) (z:=z1) (a:=w - x) (e:=e) (Zau (by omega)) (ZoW (by omega) he) (by omega)
   refine ⟨z2,?_⟩
   unfold joinD
   rw [if_neg h1,if_neg h2,Zac G T J.U.ZhH]
   simp only [DyA,A3] at *
   cases p <;> cases q <;> first | (exact absurd rfl h1) | (repeat' (first|simp (maxSteps:=9^7) only [seval,exC,Zeq,c0,c1,a1,a2]|simp (maxSteps:=9^7) (disch:=first|with_reducible assumption|omega) only [dxB]|(simp only [kdB];split)|(simp only [kvB];split)))
theorem ZqX {a b : Dy} (ha : a.m≠0) (hb : b.m≠0) (he : b.e≤a.e) : joinD a.n (a.m * 2 ^ (a.e - b.e).toNat) b.n b.m b.e = addD a b:=by
 unfold joinD addD
 rw [if_neg ha,if_neg hb,Int.min_eq_right he,show (b.e - b.e).toNat = 0 by omega,Nat.pow_zero,Nat.mul_one]
theorem ZqN (J : Al G T g) {z y : Bool} {a b : Dy} (ha : Bd a 16384) (hb : Bd b 16384) (na : a.m≠0) (nb : b.m≠0) (he : b.e≤a.e) :
  ∃ z',run G T 203 [DyA z a,DyA y b] = some (.tup [DyA z' (addD a b),.int .i64 0]):=by
 obtain ⟨a1,a2,a3⟩:=ha
 obtain ⟨b1,b2,b3⟩:=hb
 have ma : mayL (dl a.m) = true:=Zau (by omega)
 have l1:=Zgu J (z:=z) ma
 obtain ⟨z1,s1⟩:=ZdD J (z:=z) (a:=a.m) (n:=(a.e - b.e).toNat) ma (Or.inr (by omega)) (by omega)
 rw [show (((a.e - b.e).toNat : Nat) : Int) = a.e - b.e by omega] at s1
 have hbl:=Zap na (a.e - b.e).toNat
 obtain ⟨z2,j1⟩:=ZhH J (p:=a.n) (q:=b.n) (z:=z1) (y:=y) (x:=a.m * 2 ^ (a.e - b.e).toNat) (w:=b.m) (e:=b.e) (by omega) (by omega) (by omega)
 rw [ZqX na nb he] at j1
 have c1 : ¬ ((dl a.m).length : Int) = 0:=fun hc => na (Zaz.1 (by omega))
 have c2 : ¬ ((dl b.m).length : Int) = 0:=fun hc => nb (Zaz.1 (by omega))
 have c3 : ¬ a.e < b.e:=by omega
 have w1 : IntKind.i64.wrap (a.e - b.e) = a.e - b.e:=Zad (by omega)
 have w2 : IntKind.i64.wrap (a.e - b.e + (blen a.m : Int)) = a.e - b.e + (blen a.m : Int):=Zad (by omega)
 have c4 : ¬ (131073 : Int) < a.e - b.e + (blen a.m : Int):=by omega
 have c5 : ¬ (131072 : Int) < a.e - b.e + (blen a.m : Int):=by omega
 refine ⟨z2,?_⟩
 rw [Zac G T J.U.Zkg]
 generalize addD a b = d at *
 obtain ⟨n,m,e⟩:=a
 obtain ⟨n',m',e'⟩:=b
 clear hbl a1 a2 a3 b1 b2 b3
 simp only [DyA,A3] at *
 repeat' (first|simp (maxSteps:=9^7) only [seval,exC,Zep,c1,c2,c3,c4,c5,w1,w2,l1,s1,j1]|simp (maxSteps:=9^7) (disch:=first|with_reducible assumption|omega) only [dxB]|(simp only [kdB];split)|(simp only [kvB];split))
theorem Zkg (J : Al G T g) {z y : Bool} {a b : Dy} (ha : Bd a 16384) (hb : Bd b 16384) (za : Nz a) (zb : Nz b) :
  ∃ z',run G T 203 [DyA z a,DyA y b] = some (.tup [DyA z' (addD a b),.int .i64 0]):=by
 by_cases na : a.m = 0
 ·have hl:=Zaa b.m
  have hbl:=hb.bl
  obtain ⟨z1,h1⟩:=Zln J (n:=b.n) (z:=y) (l:=dl b.m) (e:=b.e) (by omega)
  have c1 : ((dl a.m).length : Int) = 0:=by have:=Zaz.2 na; omega
  refine ⟨z1,?_⟩
  rw [Zac G T J.U.Zkg]
  unfold addD
  rw [if_pos na]
  obtain ⟨n,m,e⟩:=a
  obtain ⟨n',m',e'⟩:=b
  simp only [DyA,A3] at *
  repeat' (first|simp (maxSteps:=9^7) only [seval,exC,Zep,c1,h1]|simp (maxSteps:=9^7) (disch:=first|with_reducible assumption|omega) only [dxB]|(simp only [kdB];split)|(simp only [kvB];split))
 ·by_cases nb : b.m = 0
  ·have hl:=Zaa a.m
   have hbl:=ha.bl
   obtain ⟨z1,h1⟩:=Zln J (n:=a.n) (z:=z) (l:=dl a.m) (e:=a.e) (by omega)
   have c1 : ¬ ((dl a.m).length : Int) = 0:=fun hc => na (Zaz.1 (by omega))
   have c2 : ((dl b.m).length : Int) = 0:=by have:=Zaz.2 nb; omega
   refine ⟨z1,?_⟩
   rw [Zac G T J.U.Zkg]
   unfold addD
   rw [if_neg na,if_pos nb]
   obtain ⟨n,m,e⟩:=a
   obtain ⟨n',m',e'⟩:=b
   simp only [DyA,A3] at *
   repeat' (first|simp (maxSteps:=9^7) only [seval,exC,Zep,c1,c2,h1]|simp (maxSteps:=9^7) (disch:=first|with_reducible assumption|omega) only [dxB]|(simp only [kdB];split)|(simp only [kvB];split))
  ·by_cases he : b.e≤a.e
   ·exact ZqN J ha hb na nb he
   ·obtain ⟨a1,a2,a3⟩:=ha
    obtain ⟨b1,b2,b3⟩:=hb
    have mb : mayL (dl b.m) = true:=Zau (by omega)
    have l1:=Zgu J (z:=y) mb
    obtain ⟨z1,s1⟩:=ZdD J (z:=y) (a:=b.m) (n:=(b.e - a.e).toNat) mb (Or.inr (by omega)) (by omega)
    rw [show (((b.e - a.e).toNat : Nat) : Int) = b.e - a.e by omega] at s1
    have hbl:=Zap nb (b.e - a.e).toNat
    obtain ⟨z2,j1⟩:=ZhH J (p:=b.n) (q:=a.n) (z:=z1) (y:=z) (x:=b.m * 2 ^ (b.e - a.e).toNat) (w:=a.m) (e:=a.e) (by omega) (by omega) (by omega)
    rw [ZqX nb na (by omega),ZqD zb za] at j1
    have c1 : ¬ ((dl a.m).length : Int) = 0:=fun hc => na (Zaz.1 (by omega))
    have c2 : ¬ ((dl b.m).length : Int) = 0:=fun hc => nb (Zaz.1 (by omega))
    have c3 : a.e < b.e:=by omega
    have w1 : IntKind.i64.wrap (b.e - a.e) = b.e - a.e:=Zad (by omega)
    have w2 : IntKind.i64.wrap (b.e - a.e + (blen b.m : Int)) = b.e - a.e + (blen b.m : Int):=Zad (by omega)
    have c4 : ¬ (131073 : Int) < b.e - a.e + (blen b.m : Int):=by omega
    have c5 : ¬ (131072 : Int) < b.e - a.e + (blen b.m : Int):=by omega
    refine ⟨z2,?_⟩
    rw [Zac G T J.U.Zkg]
    generalize addD a b = d at *
    obtain ⟨n,m,e⟩:=a
    obtain ⟨n',m',e'⟩:=b
    clear hbl a1 a2 a3 b1 b2 b3
    simp only [DyA,A3] at *
    repeat' (first|simp (maxSteps:=9^7) only [seval,exC,Zep,c1,c2,c3,c4,c5,w1,w2,l1,s1,j1]|simp (maxSteps:=9^7) (disch:=first|with_reducible assumption|omega) only [dxB]|(simp only [kdB];split)|(simp only [kvB];split))
theorem Zlk (J : Al G T g) {z y : Bool} {a b : Dy} (ha : Bd a 16384) (hb : Bd b 16384) (da : mayD a.n (dl a.m) a.e = true) (db : mayD b.n (dl b.m) b.e = true) :
  ∃ z',run G T 195 [DyA z a,DyA y b] = some (.tup [DyA z' (addD a b),.int .i64 0]):=by
 have h1:=Zjn J (n:=a.n) (z:=z) (n':=b.n) (z':=y) (ZaC a.m) (ZaC b.m) (e:=a.e) (e':=b.e)
 rw [da,db,Bool.and_self] at h1
 obtain ⟨z',h2⟩:=Zkg J (z:=z) (y:=y) ha hb (ZxD da) (ZxD db)
 refine ⟨z',?_⟩
 rw [Zac G T J.U.Zlk]
 generalize addD a b = d at *
 obtain ⟨n,m,e⟩:=a
 obtain ⟨n',m',e'⟩:=b
 simp only [DyA,A3] at *
 repeat' (first|simp (maxSteps:=9^7) only [seval,exC,ZjW,h1,h2]|simp (maxSteps:=9^7) (disch:=first|with_reducible assumption|omega) only [dxB]|(simp only [kdB];split)|(simp only [kvB];split))
theorem Zll (J : Al G T g) {z y : Bool} {a b : Dy} (ha : Bd a 16384) (hb : Bd b 16384) (da : mayD a.n (dl a.m) a.e = true) (db : mayD b.n (dl b.m) b.e = true) :
  ∃ z',run G T 182 [DyA z a,DyA y b] = some (.tup [DyA z' (mulD a b),.int .i64 0]):=by
 have h1:=Zjn J (n:=a.n) (z:=z) (n':=b.n) (z':=y) (ZaC a.m) (ZaC b.m) (e:=a.e) (e':=b.e)
 rw [da,db,Bool.and_self] at h1
 obtain ⟨a1,a2,a3⟩:=ha
 obtain ⟨b1,b2,b3⟩:=hb
 have hl1:=Zaa a.m
 have hl2:=Zaa b.m
 obtain ⟨z1,h2⟩:=Zst J (z:=z) (y:=y) (a:=a.m) (b:=b.m) (Zau (by omega)) (Zau (by omega)) (by omega)
 have hb : blen (a.m * b.m)≤32768:=by have:=Zwv a1 b1; omega
 obtain ⟨z2,h3⟩:=ZbQ J (n:=a.n != b.n) (z:=z1) (a:=a.m * b.m) (e:=a.e + b.e) (Zau (by omega)) (ZoW (by omega) (by omega)) (by omega)
 have w1 : IntKind.i64.wrap (a.e + b.e) = a.e + b.e:=Zad (by omega)
 refine ⟨z2,?_⟩
 rw [Zac G T J.U.Zll]
 unfold mulD
 clear hb
 obtain ⟨n,m,e⟩:=a
 obtain ⟨n',m',e'⟩:=b
 have hne : (n != n') = !decide (n = n'):=by cases n <;> cases n' <;> rfl
 simp only at *
 rw [hne] at h3 ⊢
 simp only [DyA,A3] at *
 repeat' (first|simp (maxSteps:=9^7) only [seval,exC,ZjX,h1,h2,w1,h3]|simp (maxSteps:=9^7) (disch:=first|with_reducible assumption|omega) only [dxB]|(simp only [kdB];split)|(simp only [kvB];split))
end Go.Cv
