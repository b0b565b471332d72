/-
 A part of the proof of the statements of this seat (texts that the law's own text leans on): no condition.
-/
import Derived.Test.YtddmoldiopnifaaGreatDoorM12
import Derived.Test.YtddmoldiopnifaaGreatDoorM11
import Derived.Test.YtddmoldiopnifaaGreatDoorM9
set_option linter.unusedVariables false
set_option linter.unusedSimpArgs false
namespace Go.Cv
variable {G : Nat→Option (List AV)} {T : Tbl} {g : Nat}
def quoN (k a b : Nat) : Nat:=k + 1 + blen b - blen a
theorem ZkF {k a b : Nat} (ha : a≠0) (hb : b≠0) : k < blen (a * 2 ^ quoN k a b / b):=by
 rw [ZaR]
 have h1 : 2 ^ k * b≤a * 2 ^ quoN k a b:=by
  have e1:=ZaS b
  have e2:=Zbc ha
  have e3:=Zcz ha
  calc 2 ^ k * b≤2 ^ k * 2 ^ blen b:=Nat.mul_le_mul_left _ (Nat.le_of_lt e1)
   _ = 2 ^ (k + blen b):=(Nat.pow_add ..).symm
   _≤2 ^ (blen a - 1 + quoN k a b):=Nat.pow_le_pow_right (by decide) (by unfold quoN; omega)
   _ = 2 ^ (blen a - 1) * 2 ^ quoN k a b:=Nat.pow_add ..
   _≤a * 2 ^ quoN k a b:=Nat.mul_le_mul_right _ e2
 exact (Nat.le_div_iff_mul_le (by omega)).2 h1
theorem ZFH {Q t S : Nat} (h : t≤S) : Q / 2 ^ t / 2 ^ (S - t) = Q / 2 ^ S:=by
 rw [Nat.div_div_eq_div_mul,← Nat.pow_add,show t + (S - t) = S by omega]
theorem ZFh {Q t S : Nat} (h : t≤S) (ht : Q % 2 ^ t = 0) : Q / 2 ^ t % 2 ^ (S - t) = 0↔Q % 2 ^ S = 0:=by
 have:=ZmJ Q t (S - t)
 rw [show t + (S - t) = S by omega] at this
 rw [this]; exact ⟨fun h2 => ⟨ht,h2⟩,fun h2 => h2.2⟩
theorem ZEU {n : Bool} {Q t S : Nat} {e : Int} (h : Q≠0) (h2 : Q / 2 ^ t≠0) (ht : Q % 2 ^ t = 0) : mkD n (Q / 2 ^ t) (e + t) = mkD n Q e:=by
 have e1 : Q = Q / 2 ^ t * 2 ^ t:=by
  have:=Nat.div_add_mod Q (2 ^ t)
  rw [ht,Nat.add_zero,Nat.mul_comm] at this; exact this.symm
 have e2 : tz Q = tz (Q / 2 ^ t) + t:=by
  conv => lhs; rw [e1]
  exact ZEc h2 t
 rw [Zal h,Zal h2,e2,Nat.div_div_eq_div_mul,← Nat.pow_add,Nat.add_comm t]
 congr 1; omega
theorem ZsY (J : Al G T g) {z : Bool} {d : Dy} {k : Nat} (hs : (dl d.m).length < 17179869183) (hk : blen d.m≤k) (hkk : k < 8192) :
  run G T 80 [DyA z d,.int .i64 (k : Int)] = some (.tup [DyA z d,.bool false]):=by
 obtain ⟨n,m,e⟩:=d
 simp only at *
 have l1:=ZbV (G:=G) J (z:=z) (a:=m) (by omega)
 have w2 : ((blen m : Nat) : Int) - (k : Int)≤0:=by omega
 have w4 : IntKind.i64.wrap ((blen m : Int) - (k : Int)) = (blen m : Int) - (k : Int):=Zac (by omega)
 rw [Zab G T J.C.ZnF]
 clear hs hk
 simp only [DyA,A3] at *
 repeat' (first|simp (maxSteps:=9^7) only [seval,exC,ZhF,l1,w2,w4]|simp (maxSteps:=9^7) (disch:=first|with_reducible assumption|omega) only [dxB]|(simp only [kdB];split)|(simp only [kvB];split))
theorem ZvY (J : Al G T g) {n z : Bool} {Q k S : Nat} {e : Int} (hl : (dl Q).length < 1048576) (hS : blen Q = k + S) (h0 : 0 < S) (hk0 : 0 < k) (hk : k < 8192) (he : -68719476736 < e∧e < 68719476736) :
  ∃ z',run G T 80 [DyA z (mkD n Q e),.int .i64 (k : Int)] = some (.tup [DyA z' (mkD n (Q / 2 ^ S) (e + S)),.bool (!decide (Q % 2 ^ S = 0))]):=by
 have hQ : Q≠0:=by rintro rfl; rw [Zai] at hS; omega
 have hl2:=Zaa Q
 have t1:=(Zev hQ).1
 have tm : Q % 2 ^ tz Q = 0:=by
  have:=Nat.mul_mod_left (Q / 2 ^ tz Q) (2 ^ tz Q)
  rw [← t1] at this; exact this
 have tb:=Zgw hQ
 have bd:=Zah Q (tz Q)
 have ld:=Zaa (Q / 2 ^ tz Q)
 have bS:=Zah Q S
 have hQS : Q / 2 ^ S≠0:=by intro hc; rw [hc,Zai] at bS; omega
 rcases Nat.lt_or_ge (tz Q) S with h | h
 ·obtain ⟨z',hc⟩:=ZnF (G:=G) J (z:=z) (d:=mkD n Q e) (k:=k) (s:=S - tz Q) (by rw [Zal hQ]; simp only; omega) (by rw [Zal hQ]; simp only; omega) (by rw [Zal hQ]; simp only; omega) (by omega) hk (by rw [Zal hQ]; simp only; omega)
  refine ⟨z',?_⟩
  rw [hc,Zal hQ]
  simp only
  rw [ZFH (Nat.le_of_lt h),show e + (tz Q : Int) + ((S - tz Q : Nat) : Int) = e + S by omega]
  congr 4
  simp only [ZFh (Nat.le_of_lt h) tm]
 ·have hm : Q % 2 ^ S = 0:=by
   have e1:=ZmJ Q S (tz Q - S)
   rw [show S + (tz Q - S) = tz Q by omega] at e1
   exact (e1.1 tm).1
  have hc:=ZsY (G:=G) J (z:=z) (d:=mkD n Q e) (k:=k) (by rw [Zal hQ]; simp only; omega) (by rw [Zal hQ]; simp only; omega) hk
  refine ⟨z,?_⟩
  rw [hc,ZEU (t:=S) (S:=0) hQ hQS hm,hm]; rfl
theorem Zpn (J : Al G T g) {z y : Bool} {a b : Dy} {k S : Nat} (ha : a.m≠0) (hb : b.m≠0) (la : blen a.m < 1048576) (lb : blen b.m < 1048576) (hk0 : 0 < k) (hk : k < 8192)
  (ea : -17179869184 < a.e∧a.e < 17179869184) (eb : -17179869184 < b.e∧b.e < 17179869184) (hS : blen (a.m * 2 ^ quoN k a.m b.m / b.m) = k + S) :
  ∃ z',run G T 41 [DyA z a,DyA y b,.int .i64 (k : Int)] = some (.tup [DyA z' (mkD (a.n != b.n) (a.m * 2 ^ quoN k a.m b.m / b.m / 2 ^ S) (a.e - b.e - (quoN k a.m b.m : Nat) + S)),
   .bool (!decide (a.m * 2 ^ quoN k a.m b.m / b.m % 2 ^ S = 0) || !decide (a.m * 2 ^ quoN k a.m b.m % b.m = 0))]):=by
 have hqb:=ZkF (k:=k) ha hb
 obtain ⟨n,m,e⟩:=a
 obtain ⟨n',m',e'⟩:=b
 simp only at *
 have d1:=Zaa m
 have d2:=Zaa m'
 have l1:=ZbV (G:=G) J (z:=z) (a:=m) (by omega)
 have l2:=ZbV (G:=G) J (z:=y) (a:=m') (by omega)
 have hN2 : quoN k m m' = k + 1 + blen m' - blen m:=rfl
 generalize quoN k m m' = N at *
 obtain ⟨z1,h1⟩:=ZeV (G:=G) J (z:=z) (a:=m) (n:=N) (by omega) (by omega)
 have bm:=Zan ha N
 have d3:=Zaa (m * 2 ^ N)
 obtain ⟨z2,z3,h2⟩:=ZhZ (G:=G) J (z:=z1) (y:=y) (a:=m * 2 ^ N) (b:=m') (by omega) (by omega) (by omega)
 have bq:=Zam (Nat.div_le_self (m * 2 ^ N) m')
 have d4:=Zaa (m * 2 ^ N / m')
 have hrl : decide ((0 : Int) < ((dl (m * 2 ^ N % m')).length : Int)) = !decide (m * 2 ^ N % m' = 0):=by
  rw [← decide_not]; refine decide_eq_decide.2 ?_
  rw [← Zap]; omega
 generalize m * 2 ^ N / m' = Q at *
 generalize m * 2 ^ N % m' = R at *
 obtain ⟨z4,h3⟩:=ZaI (G:=G) J (n:=n != n') (z:=z2) (a:=Q) (e:=e - e' - N) (by omega) (by omega)
 obtain ⟨z5,h4⟩:=ZvY (G:=G) J (n:=n != n') (z:=z4) (Q:=Q) (k:=k) (S:=S) (e:=e - e' - N) (by omega) hS (by omega) hk0 hk (by omega)
 have c1 : ¬ ((dl m).length : Int) = 0:=fun hc => ha (Zap.1 (by omega))
 refine ⟨z5,?_⟩
 have hne : (n != n') = !decide (n = n'):=by cases n <;> cases n' <;> rfl
 rw [hne] at h3 h4 ⊢
 rw [Zab G T J.C.Zpn]
 simp only [DyA,A3] at *
 have wa : IntKind.i64.wrap ((k : Int) + 1) = (k : Int) + 1:=Zac (by omega)
 have wb : IntKind.i64.wrap ((k : Int) + 1 + (blen m' : Int)) = (k : Int) + 1 + (blen m' : Int):=Zac (by omega)
 have wc : IntKind.i64.wrap ((k : Int) + 1 + (blen m' : Int) - (blen m : Int)) = (k : Int) + 1 + (blen m' : Int) - (blen m : Int):=Zac (by omega)
 have wd : IntKind.i64.wrap (e - e') = e - e':=Zac (by omega)
 have we : IntKind.i64.wrap (e - e' - (N : Int)) = e - e' - N:=Zac (by omega)
 have hN3 : ((k : Int) + 1 + (blen m' : Int) - (blen m : Int) < 0∧N = 0)∨(¬ ((k : Int) + 1 + (blen m' : Int) - (blen m : Int) < 0)∧(k : Int) + 1 + (blen m' : Int) - (blen m : Int) = N):=by omega
 clear d1 d2 d3 d4 bm bq hqb hS hN2
 generalize decide (Q % 2 ^ S = 0) = o at *
 rcases hN3 with ⟨c3,rfl⟩ | ⟨c3,wN⟩
 ·simp only [cast0,Nat.pow_zero,Nat.mul_one] at h1 h2 we h3 h4 ⊢
  cases o <;> (repeat' (first|simp (maxSteps:=9^7) only [seval,exC,Zhv,l1,l2,c1,c3,wa,wb,wc,wd,we,h1,h2,h3,h4,hrl]|simp (maxSteps:=9^7) (disch:=first|with_reducible assumption|omega) only [dxB]|(simp only [kdB];split)|(simp only [kvB];split)); try rfl)
 ·have c4 : ¬ (N : Int) < 0:=by omega
  rw [wN] at wc
  cases o <;> (repeat' (first|simp (maxSteps:=9^7) only [seval,exC,Zhv,l1,l2,c1,c4,wN,wa,wb,wc,wd,we,h1,h2,h3,h4,hrl]|simp (maxSteps:=9^7) (disch:=first|with_reducible assumption|omega) only [dxB]|(simp only [kdB];split)|(simp only [kvB];split)); try rfl)
theorem ZzI (e : Env) (h : Heap) : evL G T ZiK e h = kS G T (evL G T ZiN (keepE [5,6,7] e) h) ZiK:=Zae G T rfl e h
theorem Zlk (J : Al G T g) {n z n' z' : Bool} {l l' : List Nat} (hd : Dg l) (hd' : Dg l') {e e' : Int} :
  run G T 74 [.imm 2 [.bool n,D z l,.int .i64 e,.bool n',D z' l',.int .i64 e']] = some (.bool (mayD n l e && mayD n' l' e')):=by
 rw [Zab G T J.C.Zlk]
 have h2:=Zdb J (n:=n) (z:=z) hd (e:=e)
 have h3:=Zdb J (n:=n') (z:=z') hd' (e:=e')
 simp only [A3] at *
 cases hm : mayD n l e <;> cases hm' : mayD n' l' e' <;> (
  rw [hm] at h2
  rw [hm'] at h3
  repeat' (first|simp (maxSteps:=9^7) only [seval,exC,Zka,h2,h3,ZzI,ZiN,iad20,iad21,ZFL]|simp (maxSteps:=9^7) (disch:=first|with_reducible assumption|omega) only [dxB]|(simp only [kdB];split)|(simp only [kvB];split))
  all_goals rfl)
theorem ZsE (J : Al G T g) {z y : Bool} {a b : Dy} {k S : Nat} (da : mayD a.n (dl a.m) a.e = true) (db : mayD b.n (dl b.m) b.e = true)
  (ha : a.m≠0) (hb : b.m≠0) (hk : 1≤k∧k≤8192) (hw : quoN k a.m b.m + blen a.m≤131072) (ea : -4000000 < a.e∧a.e < 4000000) (eb : -4000000 < b.e∧b.e < 4000000)
  (hS : blen (a.m * 2 ^ quoN k a.m b.m / b.m) = k + S) :
  ∃ z',run G T 40 [DyA z a,DyA y b,.int .i64 (k : Int)] = some (.tup [DyA z' (mkD (a.n != b.n) (a.m * 2 ^ quoN k a.m b.m / b.m / 2 ^ S) (a.e - b.e - (quoN k a.m b.m : Nat) + S)),
   .bool (!decide (a.m * 2 ^ quoN k a.m b.m / b.m % 2 ^ S = 0) || !decide (a.m * 2 ^ quoN k a.m b.m % b.m = 0)),.int .i64 0]):=by
 have hqb:=ZkF (k:=k) ha hb
 have ma:=(Zcq da).1
 have mb:=(Zcq db).1
 obtain ⟨n,m,e⟩:=a
 obtain ⟨n',m',e'⟩:=b
 simp only at *
 have b0:=Zlk J (n:=n) (z:=z) (n':=n') (z':=y) (Zaq m) (Zaq m') (e:=e) (e':=e')
 rw [da,db,Bool.and_self] at b0
 have a0:=ZlO J hk
 have l1:=ZhE J (z:=z) ma
 have l2:=ZhE J (z:=y) mb
 have bm:=ZdF ma
 have bm':=ZdF mb
 have hN2 : quoN k m m' = k + 1 + blen m' - blen m:=rfl
 generalize quoN k m m' = N at *
 obtain ⟨z1,h1⟩:=ZdV J (z:=z) (a:=m) (n:=N) ma (Or.inr hw) (by omega)
 have bN:=Zan ha N
 have mN : mayL (dl (m * 2 ^ N)) = true:=Zak (by omega)
 obtain ⟨z2,z3,h2⟩:=Zfo J (z:=z1) (y:=y) (a:=m * 2 ^ N) (b:=m') mN mb hb
 have bq:=Zam (Nat.div_le_self (m * 2 ^ N) m')
 have mq : mayL (dl (m * 2 ^ N / m')) = true:=Zak (by omega)
 have hrl : decide ((0 : Int) < ((dl (m * 2 ^ N % m')).length : Int)) = !decide (m * 2 ^ N % m' = 0):=by
  rw [← decide_not]; refine decide_eq_decide.2 ?_
  rw [← Zap]; omega
 generalize m * 2 ^ N / m' = Q at *
 generalize m * 2 ^ N % m' = R at *
 obtain ⟨z5,h4⟩:=Zng J (n:=n != n') (z:=z2) (more:=!decide (R = 0)) (q:=Q) (k:=k) (s:=S) (e:=e - e' - N) mq hS (by omega) (by omega)
 have c1 : ¬ ((dl m).length : Int) = 0:=fun hc => ha (Zap.1 (by omega))
 have c2 : ¬ ((dl m').length : Int) = 0:=fun hc => hb (Zap.1 (by omega))
 refine ⟨z5,?_⟩
 have hne : (n != n') = !decide (n = n'):=by cases n <;> cases n' <;> rfl
 rw [hne] at h4 ⊢
 rw [Zab G T J.C.ZsE]
 simp only [DyA,A3] at *
 have c3 : ¬ (k : Int) < 1:=by omega
 have wa : IntKind.i64.wrap ((k : Int) + 1) = (k : Int) + 1:=Zac (by omega)
 have wb : IntKind.i64.wrap ((k : Int) + 1 + (blen m' : Int)) = (k : Int) + 1 + (blen m' : Int):=Zac (by omega)
 have wc : IntKind.i64.wrap ((k : Int) + 1 + (blen m' : Int) - (blen m : Int)) = (k : Int) + 1 + (blen m' : Int) - (blen m : Int):=Zac (by omega)
 have wd : IntKind.i64.wrap (e - e') = e - e':=Zac (by omega)
 have we : IntKind.i64.wrap (e - e' - (N : Int)) = e - e' - N:=Zac (by omega)
 have wm : max (0 : Int) ((k : Int) + 1 + (blen m' : Int) - (blen m : Int)) = N:=by omega
 have wf : IntKind.i64.wrap (131072 - (blen m : Int)) = 131072 - (blen m : Int):=Zac (by omega)
 have c4 : ¬ (131072 - (blen m : Int) < (N : Int)):=by omega
 clear bN mN bq mq hqb hS hN2 da db ma mb hw
 generalize decide (Q % 2 ^ S = 0) = o at *
 cases o <;> (repeat' (first|simp (maxSteps:=9^7) only [seval,exC,ZlT,b0,a0,c1,c2,c3,c4,l1,l2,wa,wb,wc,wd,we,wf,wm,Zkt,h1,h2,h4,hrl]|simp (maxSteps:=9^7) (disch:=first|with_reducible assumption|omega) only [dxB]|(simp only [kdB];split)|(simp only [kvB];split)); try rfl)
def shN (m : Nat) (n : Int) : Nat:=if 0≤n then m * 2 ^ n.toNat else m / 2 ^ (-n).toNat
def shB (m : Nat) (n : Int) : Bool:=if 0≤n then false else !decide (m % 2 ^ (-n).toNat = 0)
theorem ZvZ {m : Nat} (h : m≠0) {n : Int} (hn : 0≤(blen m : Int) + n) : (blen (shN m n) : Int) = blen m + n:=by
 unfold shN; split
 ·rw [Zan h]; omega
 ·rw [Zah]; omega
theorem ZsN (J : Al G T g) {z : Bool} {m : Nat} {n : Int} (hm : mayL (dl m) = true) (h1 : (blen m : Int) + n≤131072) (h2 : -1099511627776 < n∧n < 1099511627776) :
  ∃ z',run G T 50 [D z (dl m),.int .i64 n] = some (.tup [D z' (dl (shN m n)),.bool (shB m n),.int .i64 0]):=by
 unfold shN shB
 by_cases h : 0≤n
 ·obtain ⟨z',hz⟩:=ZdV J (z:=z) (a:=m) (n:=n.toNat) hm (by omega) (by omega)
  rw [if_pos h,if_pos h]
  rw [show ((n.toNat : Nat) : Int) = n by omega] at hz
  exact ⟨z',hz⟩
 ·obtain ⟨z',hz⟩:=ZfM J (z:=z) (a:=m) (n:=(-n).toNat) hm (by omega) (by omega)
  rw [if_neg h,if_neg h]
  rw [show -(((-n).toNat : Nat) : Int) = n by omega] at hz
  exact ⟨z',hz⟩
theorem Zjq {k r M : Nat} (h1 : 2 ^ k * 2 ^ k≤M) (h2 : M < (r + 1) * (r + 1)) : k < blen r:=by
 rw [ZaR]
 rcases Nat.lt_or_ge r (2 ^ k) with h | h
 ·have:=Nat.mul_le_mul (show r + 1≤2 ^ k by omega) (show r + 1≤2 ^ k by omega)
  omega
 ·exact h
theorem ZBR (x : Int) : andI .i64 x 1 = x % 2:=by
 rw [ZsD]
 unfold andI0
 have h1 : (BitVec.ofInt IntKind.i64.bits x &&& BitVec.ofInt IntKind.i64.bits 1).toNat = (x % 18446744073709551616).toNat % 2:=by
  rw [BitVec.toNat_and]
  rw [show (BitVec.ofInt IntKind.i64.bits 1).toNat = 1 from rfl,BitVec.toNat_ofInt]
  rw [show ((2 : Nat) ^ IntKind.i64.bits : Nat) = 18446744073709551616 from rfl]
  exact Zsu _
 rw [h1]
 rw [Zac (by omega)]
 omega
set_option maxHeartbeats 2000000 in
theorem Zqk (J : Al G T g) {z : Bool} {d : Dy} {k S : Nat} {n c : Int} {r : Nat} (dd : mayD d.n (dl d.m) d.e = true) (h0 : d.m≠0) (hs : d.n = false)
  (hk : 1≤k∧k≤8192) (hn : n = 2 * k + 2 - blen d.m + (d.e - (2 * k + 2 - blen d.m)) % 2) (hc : d.e - n = 2 * c)
  (r1 : r * r≤shN d.m n) (r2 : shN d.m n < (r + 1) * (r + 1)) (hS : blen r = k + S) :
  ∃ z',run G T 43 [DyA z d,.int .i64 (k : Int)] = some (.tup [DyA z' (mkD false (r / 2 ^ S) (c + S)),
   .bool (!decide (r % 2 ^ S = 0) || (shB d.m n || !decide (r * r = shN d.m n))),.int .i64 0]):=by
 obtain ⟨f1,f2,f3,f4,f5⟩:=Zcq dd
 obtain ⟨ng,m,e⟩:=d
 simp only at *
 subst hs
 have hbm:=ZdF f1
 have hbp:=Zcz h0
 have hbs:=ZvZ h0 (n:=n) (by omega)
 have hrk : k < blen r:=Zjq (k:=k) (r:=r) (M:=shN m n) (by
  have:=Zbc (n:=shN m n) (by intro hc; rw [hc,Zai] at hbs; omega)
  rw [← Nat.pow_add]
  exact Nat.le_trans (Nat.pow_le_pow_right (by decide) (by omega)) this) r2
 have b0:=Zdb J false z (Zaq m) e
 rw [dd] at b0
 have a0:=ZlO J hk
 have l1:=ZhE J (z:=z) f1
 obtain ⟨z1,h1⟩:=ZsN J (z:=z) (m:=m) (n:=n) f1 (by omega) (by omega)
 have mM : mayL (dl (shN m n)) = true:=Zak (by omega)
 obtain ⟨r',z2,h2,q1,q2⟩:=ZoY J (z:=z1) (a:=shN m n) mM
 have hrr : r' = r:=Zpq q1 q2 r1 r2
 subst hrr
 have hbr : blen r'≤blen (shN m n):=Zam (Nat.le_trans (Nat.le_mul_self r') r1)
 have mr : mayL (dl r') = true:=Zak (by omega)
 obtain ⟨z5,h4⟩:=Zng J (n:=false) (z:=z2) (more:=shB m n || !decide (r' * r' = shN m n)) (q:=r') (k:=k) (s:=S) (e:=c) mr hS (by omega) (by omega)
 have c1 : ¬ ((dl m).length : Int) = 0:=fun hc => h0 (Zap.1 (by omega))
 refine ⟨z5,?_⟩
 rw [Zab G T J.C.Zqk]
 simp only [DyA,A3] at *
 have wa : IntKind.i64.wrap (2 * (k : Int)) = 2 * (k : Int):=Zac (by omega)
 have wb : IntKind.i64.wrap (2 * (k : Int) + 2) = 2 * (k : Int) + 2:=Zac (by omega)
 have wc : IntKind.i64.wrap (2 * (k : Int) + 2 - (blen m : Int)) = 2 * (k : Int) + 2 - (blen m : Int):=Zac (by omega)
 have wd : IntKind.i64.wrap (e - (2 * (k : Int) + 2 - (blen m : Int))) = e - (2 * (k : Int) + 2 - (blen m : Int)):=Zac (by omega)
 have we : IntKind.i64.wrap (e - n) = e - n:=Zac (by omega)
 have wt : IntKind.i64.wrap ((e - n).tdiv 2) = c:=by rw [hc,Int.mul_tdiv_cancel_left _ (by decide)]; exact Zac (by omega)
 have wx:=ZBR (e - (2 * (k : Int) + 2 - (blen m : Int)))
 have hpar : ((e - (2 * (k : Int) + 2 - (blen m : Int))) % 2 = 0∧n = 2 * (k : Int) + 2 - (blen m : Int)) ∨
   ((e - (2 * (k : Int) + 2 - (blen m : Int))) % 2 = 1∧IntKind.i64.wrap (2 * (k : Int) + 2 - (blen m : Int) + 1) = n):=by
  rcases Int.emod_two_eq (e - (2 * (k : Int) + 2 - (blen m : Int))) with hp | hp
  ·left; exact ⟨hp,by omega⟩
  ·right; refine ⟨hp,?_⟩; rw [Zac (by omega)]; omega
 clear hbs hrk hbr mr mM hS r1 r2 q1 q2 f1 f2 f3 f4 f5 dd hbm hbp hn
 generalize shB m n = o1 at *
 generalize decide (r' * r' = shN m n) = o2 at *
 generalize decide (r' % 2 ^ S = 0) = o at *
 generalize shN m n = M at *
 rcases hpar with ⟨hp,hn⟩ | ⟨hp,hn⟩
 ·rw [hp] at wx
  rw [hn] at h1 we wt
  cases o1 <;> cases o2 <;> (simp only [Bool.false_or,Bool.true_or,Bool.not_true,Bool.not_false,Bool.or_false,Bool.or_true] at h4 ⊢; repeat' (first|simp (maxSteps:=9^7) only [seval,exC,Zhq,b0,a0,c1,l1,wa,wb,wc,wd,we,wt,wx,h1,h2,h4]|simp (maxSteps:=9^7) (disch:=first|with_reducible assumption|omega) only [dxB]|(simp only [kdB];split)|(simp only [kvB];split)); try rfl)
 ·rw [hp] at wx
  cases o1 <;> cases o2 <;> (simp only [Bool.false_or,Bool.true_or,Bool.not_true,Bool.not_false,Bool.or_false,Bool.or_true] at h4 ⊢; repeat' (first|simp (maxSteps:=9^7) only [seval,exC,Zhq,b0,a0,c1,l1,wa,wb,wc,wd,we,wt,wx,hn,h1,h2,h4]|simp (maxSteps:=9^7) (disch:=first|with_reducible assumption|omega) only [dxB]|(simp only [kdB];split)|(simp only [kvB];split)); try rfl)
theorem ZCF (x : Int) : (x.tmod 2 = 0↔x % 2 = 0):=by
 constructor
 ·intro h; exact Int.emod_eq_zero_of_dvd (Int.dvd_of_tmod_eq_zero h)
 ·intro h; exact Int.tmod_eq_zero_of_dvd (Int.dvd_of_emod_eq_zero h)
set_option maxHeartbeats 2000000 in
theorem Zor (J : Al G T g) {z : Bool} {d : Dy} {k S N r : Nat} {c : Int} (h0 : d.m≠0) (lb : blen d.m < 1048576) (hk0 : 0 < k) (hk : k < 8192) (he : -17179869184 < d.e∧d.e < 17179869184)
  (hN : (N : Int) = max 0 (2 * (k : Int) + 2 - blen d.m) + (d.e - max 0 (2 * (k : Int) + 2 - blen d.m)) % 2) (hc : d.e - N = 2 * c)
  (r1 : r * r≤d.m * 2 ^ N) (r2 : d.m * 2 ^ N < (r + 1) * (r + 1)) (hS : blen r = k + S) :
  ∃ z',run G T 44 [DyA z d,.int .i64 (k : Int)] = some (.tup [DyA z' (mkD false (r / 2 ^ S) (c + S)),.bool (!decide (r % 2 ^ S = 0) || !decide (r * r = d.m * 2 ^ N))]):=by
 obtain ⟨ng,m,e⟩:=d
 simp only at *
 have hbp:=Zcz h0
 have hbN:=Zan h0 N
 have hrk : k < blen r:=Zjq (k:=k) (r:=r) (M:=m * 2 ^ N) (by
  have:=Zbc (n:=m * 2 ^ N) (by intro hc; rw [hc,Zai] at hbN; omega)
  rw [← Nat.pow_add]
  exact Nat.le_trans (Nat.pow_le_pow_right (by decide) (by omega)) this) r2
 have hbr : blen r≤blen (m * 2 ^ N):=Zam (Nat.le_trans (Nat.le_mul_self r) r1)
 have d1:=Zaa m
 have d2:=Zaa (m * 2 ^ N)
 have d3:=Zaa r
 have l1:=ZbV (G:=G) J (z:=z) (a:=m) (by omega)
 obtain ⟨z1,h1⟩:=ZeV (G:=G) J (z:=z) (a:=m) (n:=N) (by omega) (by omega)
 obtain ⟨r',z2,h2,q1,q2⟩:=ZnU (G:=G) J (z:=z1) (a:=m * 2 ^ N) (by omega)
 have hrr : r' = r:=Zpq q1 q2 r1 r2
 subst hrr
 obtain ⟨z4,h3⟩:=ZaI (G:=G) J (n:=false) (z:=z2) (a:=r') (e:=c) (by omega) (by omega)
 obtain ⟨z5,h4⟩:=ZvY (G:=G) J (n:=false) (z:=z4) (Q:=r') (k:=k) (S:=S) (e:=c) (by omega) hS (by omega) hk0 hk (by omega)
 refine ⟨z5,?_⟩
 rw [Zab G T J.C.Zor]
 simp only [DyA,A3] at *
 have wa : IntKind.i64.wrap (2 * (k : Int)) = 2 * (k : Int):=Zac (by omega)
 have wb : IntKind.i64.wrap (2 * (k : Int) + 2) = 2 * (k : Int) + 2:=Zac (by omega)
 have wc : IntKind.i64.wrap (2 * (k : Int) + 2 - (blen m : Int)) = 2 * (k : Int) + 2 - (blen m : Int):=Zac (by omega)
 have we : IntKind.i64.wrap (e - (N : Int)) = e - N:=Zac (by omega)
 have wt : IntKind.i64.wrap ((e - (N : Int)).tdiv 2) = c:=by rw [hc,Int.mul_tdiv_cancel_left _ (by decide)]; exact Zac (by omega)
 have hM : ∃ P : Int,P = max 0 (2 * (k : Int) + 2 - (blen m : Int)):=⟨_,rfl⟩
 obtain ⟨P,hP⟩:=hM
 rw [← hP] at hN
 have wd : IntKind.i64.wrap (e - P) = e - P:=Zac (by omega)
 have wx:=ZCF (e - P)
 have hpar : ((e - P).tmod 2 = 0∧(N : Int) = P)∨(¬ (e - P).tmod 2 = 0∧IntKind.i64.wrap (P + 1) = N):=by
  rcases Int.emod_two_eq (e - P) with hp | hp
  ·left; exact ⟨wx.2 hp,by omega⟩
  ·right; refine ⟨fun h => ?_,?_⟩
   ·have:=wx.1 h; omega
   ·rw [Zac (by omega)]; omega
 have hPP : (2 * (k : Int) + 2 - (blen m : Int) < 0∧P = 0)∨(¬ 2 * (k : Int) + 2 - (blen m : Int) < 0∧P = 2 * (k : Int) + 2 - (blen m : Int)):=by omega
 clear wx hN hbp hbN hrk hbr d1 d2 d3 r1 r2 q1 q2 hS lb hP
 generalize decide (r' * r' = m * 2 ^ N) = o2 at *
 generalize decide (r' % 2 ^ S = 0) = o at *
 rcases hPP with ⟨c1,rfl⟩ | ⟨c1,hPe⟩
 ·rcases hpar with ⟨hp,hn⟩ | ⟨hp,hn⟩
  ·rw [hn] at h1 we wt
   cases o <;> cases o2 <;> (repeat' (first|simp (maxSteps:=9^7) only [seval,exC,ZcD,l1,c1,wa,wb,wc,wd,we,wt,hp,h1,h2,h3,h4]|simp (maxSteps:=9^7) (disch:=first|with_reducible assumption|omega) only [dxB]|(simp only [kdB];split)|(simp only [kvB];split)); all_goals rfl)
  ·have w0 : IntKind.i64.wrap (0 + 1) = 1:=rfl
   have w1 : IntKind.i64.wrap 1 = 1:=rfl
   have hN1 : N = 1:=by omega
   subst hN1
   rw [show ((1 : Nat) : Int) = 1 from rfl] at h1 we wt
   clear hn
   cases o <;> cases o2 <;> (repeat' (first|simp (maxSteps:=9^7) only [seval,exC,ZcD,l1,c1,wa,wb,wc,wd,we,wt,hp,w0,w1,h1,h2,h3,h4]|simp (maxSteps:=9^7) (disch:=first|with_reducible assumption|omega) only [dxB]|(simp only [kdB];split)|(simp only [kvB];split)); all_goals rfl)
 ·rw [hPe] at wd hpar
  rcases hpar with ⟨hp,hn⟩ | ⟨hp,hn⟩
  ·rw [hn] at h1 we wt
   cases o <;> cases o2 <;> (repeat' (first|simp (maxSteps:=9^7) only [seval,exC,ZcD,l1,c1,wa,wb,wc,wd,we,wt,hp,h1,h2,h3,h4]|simp (maxSteps:=9^7) (disch:=first|with_reducible assumption|omega) only [dxB]|(simp only [kdB];split)|(simp only [kvB];split)); all_goals rfl)
  ·cases o <;> cases o2 <;> (repeat' (first|simp (maxSteps:=9^7) only [seval,exC,ZcD,l1,c1,wa,wb,wc,wd,we,wt,hp,hn,h1,h2,h3,h4]|simp (maxSteps:=9^7) (disch:=first|with_reducible assumption|omega) only [dxB]|(simp only [kdB];split)|(simp only [kvB];split)); all_goals rfl)
def sW (F : Fm) (md : Int) (neg : Bool) (Q : Nat) (more : Bool) (E : Int) : Nat × Nat :=
 wordOf F md neg (rdN md neg Q more (F.eOf (E + blen Q) - E).toNat).1 (rdN md neg Q more (F.eOf (E + blen Q) - E).toNat).2 (F.eOf (E + blen Q)) (E + blen Q) (rdN md neg Q more (blen Q - F.fr - 1)).1
theorem Zso (F : Fm) (md : Int) (neg : Bool) {w : Nat} (more : Bool) (top : Int) (hw : blen w = 64) : partW F md neg w more top = sW F md neg w more (top - 64):=by
 unfold partW sW
 have h1 : top - 64 + (blen w : Int) = top:=by omega
 rw [h1,show F.eOf top - top + 64 = F.eOf top - (top - 64) by omega,show blen w - F.fr - 1 = 63 - F.fr by omega]
theorem ZgK (F : Fm) (md : Int) (neg : Bool) {Q j : Nat} (more : Bool) (E : Int) (h : F.fr + 2 + j≤blen Q) :
  sW F md neg (Q / 2 ^ j) (more || decide (Q % 2 ^ j≠0)) (E + j) = sW F md neg Q more E:=by
 unfold sW
 have hb : (blen (Q / 2 ^ j) : Int) = blen Q - j:=by rw [Zah]; omega
 have hb' : blen (Q / 2 ^ j) = blen Q - j:=by omega
 have e1 : E + j + (blen (Q / 2 ^ j) : Int) = E + blen Q:=by omega
 have hE : E + (blen Q : Int) - F.fr - 1≤F.eOf (E + blen Q):=by unfold Fm.eOf; omega
 have r1:=Zpr md neg Q more j (F.eOf (E + blen Q) - (E + j)).toNat (by omega)
 have r2:=Zpr md neg Q more j (blen Q - j - F.fr - 1) (by omega)
 rw [show j + (F.eOf (E + blen Q) - (E + j)).toNat = (F.eOf (E + blen Q) - E).toNat by omega] at r1
 rw [show j + (blen Q - j - F.fr - 1) = blen Q - F.fr - 1 by omega] at r2
 rw [e1,hb',r1,r2]
theorem ZtJ {M : Nat} (h : M≠0) (t : Nat) : headN (M * 2 ^ t) = headN M∧behindN (M * 2 ^ t) = behindN M:=by
 unfold headN behindN
 rw [Zan h]
 by_cases h1 : blen M≤64
 ·by_cases h2 : blen M + t≤64
  ·rw [if_pos h1,if_pos h2,if_pos h1,if_pos h2,Nat.mul_assoc,← Nat.pow_add,show t + (64 - (blen M + t)) = 64 - blen M by omega]
   exact ⟨rfl,rfl⟩
  ·rw [if_pos h1,if_neg h2,if_pos h1,if_neg h2]
   rw [ZjM (by omega),Zmv (by omega),show t - (blen M + t - 64) = 64 - blen M by omega]
   exact ⟨rfl,rfl⟩
 ·rw [if_neg h1,if_neg (by omega),if_neg h1,if_neg (by omega)]
  rw [Zig (by omega),Zlh (by omega),show blen M + t - 64 - t = blen M - 64 by omega]
  have hp:=Nat.two_pow_pos t
  refine ⟨rfl,decide_eq_decide.2 ?_⟩
  constructor
  ·intro h3 h4; exact h3 (by rw [h4,Nat.zero_mul])
  ·intro h3 h4
   rcases Nat.mul_eq_zero.1 h4 with h5 | h5
   ·exact h3 h5
   ·omega
theorem ZFT (F : Fm) (md : Int) (neg : Bool) {M : Nat} (E : Int) (h : F.fr + 2≤blen M) : sW F md neg (headN M) (behindN M) (E + blen M - 64) = sW F md neg M false E:=by
 have hF:=Zba F
 unfold headN behindN
 by_cases h1 : blen M≤64
 ·rw [if_pos h1,if_pos h1]
  have hm : M≠0:=by rintro rfl; rw [Zai] at h; omega
  have:=ZgK F md neg (Q:=M * 2 ^ (64 - blen M)) (j:=64 - blen M) false (E + blen M - 64) (by rw [Zan hm]; omega)
  rw [Nat.mul_div_cancel _ (Nat.two_pow_pos _),Nat.mul_mod_left,show E + (blen M : Int) - 64 + ((64 - blen M : Nat) : Int) = E by omega] at this
  rw [← this]; rfl
 ·rw [if_neg h1,if_neg h1]
  have:=ZgK F md neg (Q:=M) (j:=blen M - 64) false E (by omega)
  rw [← this,Bool.false_or,show E + ((blen M - 64 : Nat) : Int) = E + blen M - 64 by omega]
theorem Zuv (F : Fm) (md : Int) (neg : Bool) {M : Nat} (E : Int) (h : F.fr + 2≤blen M) : rndW F md (mkD neg M E) = sW F md neg M false E:=by
 have hm : M≠0:=by rintro rfl; rw [Zai] at h; omega
 have t1:=(Zev hm).1
 have hb:=Zah M (tz M)
 have hz:=Zgw hm
 have hm' : M / 2 ^ tz M≠0:=by intro hc; rw [hc,Zai] at hb; omega
 have h1:=Zxr F md (d:=mkD neg M E) (by rw [Zal hm]; exact hm')
 rw [← h1,Zal hm]
 simp only
 obtain ⟨e1,e2⟩:=ZtJ hm' (tz M)
 rw [← t1] at e1 e2
 rw [← e1,← e2,Zso _ _ _ _ _ (ZlY hm),show E + (tz M : Int) + (blen (M / 2 ^ tz M) : Int) - 64 = E + blen M - 64 by omega,ZFT F md neg E h]
theorem ZyQ (F : Fm) (md : Int) (neg : Bool) {M j : Nat} (E : Int) (hj : 0 < j) (h : F.fr + 2≤blen M) : sW F md neg (M * 2 ^ j + 1) false (E - j) = sW F md neg M true E:=by
 have hm : M≠0:=by rintro rfl; rw [Zai] at h; omega
 have hp : 1 < 2 ^ j:=Nat.one_lt_two_pow (by omega)
 have d1 : (M * 2 ^ j + 1) / 2 ^ j = M:=by
  rw [Nat.mul_comm,Nat.mul_add_div (by omega),Nat.div_eq_of_lt hp,Nat.add_zero]
 have d2 : (M * 2 ^ j + 1) % 2 ^ j = 1:=by
  rw [Nat.mul_comm,Nat.mul_add_mod,Nat.mod_eq_of_lt hp]
 have hb:=Zah (M * 2 ^ j + 1) j
 rw [d1] at hb
 have:=ZgK F md neg (Q:=M * 2 ^ j + 1) (j:=j) false (E - j) (by omega)
 rw [d1,d2,show E - (j : Int) + j = E by omega] at this
 rw [← this]; rfl
theorem ZHR (F : Fm) (md : Int) (neg : Bool) {a b N j : Nat} (E : Int) (hb : b≠0) (h : F.fr + 2≤blen (a * 2 ^ N / b)) :
  sW F md neg (a * 2 ^ (N + j) / b) (!decide (a * 2 ^ (N + j) % b = 0)) (E - j) = sW F md neg (a * 2 ^ N / b) (!decide (a * 2 ^ N % b = 0)) E:=by
 have hp:=Nat.two_pow_pos j
 have e0 : a * 2 ^ (N + j) = a * 2 ^ N * 2 ^ j:=by rw [Nat.pow_add,Nat.mul_assoc]
 rw [e0]
 generalize a * 2 ^ N = A at *
 have e1 : A * 2 ^ j / b / 2 ^ j = A / b:=by rw [Nat.div_div_eq_div_mul,Nat.mul_div_mul_right _ _ hp]
 have hbl:=Zah (A * 2 ^ j / b) j
 rw [e1] at hbl
 have h2:=ZgK F md neg (Q:=A * 2 ^ j / b) (j:=j) (!decide (A * 2 ^ j % b = 0)) (E - j) (by omega)
 rw [e1,show E - (j : Int) + j = E by omega] at h2
 rw [← h2]
 congr 1
 have e3 : A * 2 ^ j % (b * 2 ^ j) = A % b * 2 ^ j:=Nat.mul_mod_mul_right ..
 rw [Nat.mod_mul] at e3
 have key : A % b = 0↔(A * 2 ^ j % b = 0∧A * 2 ^ j / b % 2 ^ j = 0):=by
  constructor
  ·intro h3
   rw [h3,Nat.zero_mul] at e3
   have h4 : A * 2 ^ j % b = 0:=by omega
   rw [h4,Nat.zero_add] at e3
   refine ⟨h4,?_⟩
   rcases Nat.mul_eq_zero.1 e3 with h5 | h5
   ·exact absurd h5 hb
   ·exact h5
  ·rintro ⟨h3,h4⟩
   rw [h3,h4,Nat.mul_zero,Nat.add_zero] at e3
   rcases Nat.mul_eq_zero.1 e3.symm with h5 | h5
   ·exact h5
   ·omega
 rw [Bool.eq_iff_iff]
 simp only [Bool.or_eq_true,Bool.not_eq_true',decide_eq_true_eq,decide_eq_false_iff_not,ne_eq,key]
 by_cases h5 : A * 2 ^ j % b = 0 <;> by_cases h6 : A * 2 ^ j / b % 2 ^ j = 0 <;> simp [h5,h6]
theorem ZfD (t j : Nat) : t * 2 ^ j * (t * 2 ^ j) = t * t * 2 ^ (2 * j):=by
 rw [Nat.mul_mul_mul_comm,← Nat.pow_add,show j + j = 2 * j by omega]
theorem Zzw {X r t j : Nat} (h1 : r * r≤X) (h2 : X < (r + 1) * (r + 1)) (h3 : t * t≤X / 2 ^ (2 * j)) (h4 : X / 2 ^ (2 * j) < (t + 1) * (t + 1)) :
  t = r / 2 ^ j∧((t * t = X / 2 ^ (2 * j)∧X % 2 ^ (2 * j) = 0)↔(r * r = X∧r % 2 ^ j = 0)):=by
 have hp:=Nat.two_pow_pos j
 have hq:=Nat.two_pow_pos (2 * j)
 have g1 : t * 2 ^ j * (t * 2 ^ j)≤X:=by
  rw [ZfD]
  exact Nat.le_trans (Nat.mul_le_mul_right _ h3) (Nat.div_mul_le_self ..)
 have g2 : t * 2 ^ j≤r:=by
  rcases Nat.lt_or_ge r (t * 2 ^ j) with h | h
  ·have:=Nat.mul_le_mul (show r + 1≤t * 2 ^ j from h) (show r + 1≤t * 2 ^ j from h); omega
  ·exact h
 have g3 : r / 2 ^ j * (r / 2 ^ j)≤X / 2 ^ (2 * j):=by
  rw [Nat.le_div_iff_mul_le hq,← ZfD]
  exact Nat.le_trans (Nat.mul_le_mul (Nat.div_mul_le_self ..) (Nat.div_mul_le_self ..)) h1
 have g4 : r / 2 ^ j≤t:=by
  rcases Nat.lt_or_ge t (r / 2 ^ j) with h | h
  ·have:=Nat.mul_le_mul (show t + 1≤r / 2 ^ j from h) (show t + 1≤r / 2 ^ j from h); omega
  ·exact h
 have g5 : t = r / 2 ^ j:=Nat.le_antisymm ((Nat.le_div_iff_mul_le hp).2 g2) g4
 refine ⟨g5,?_⟩
 have m1:=Nat.div_add_mod X (2 ^ (2 * j))
 have m2:=Nat.div_add_mod r (2 ^ j)
 constructor
 ·rintro ⟨a1,a2⟩
  have hX : t * 2 ^ j * (t * 2 ^ j) = X:=by
   rw [ZfD,a1,Nat.mul_comm]; omega
  have hr : t * 2 ^ j = r:=by
   refine Zpq (a:=X) (Nat.le_of_eq hX) ?_ h1 h2
   rw [← hX]; exact Nat.mul_lt_mul_of_lt_of_le (Nat.lt_succ_self _) (Nat.le_succ _) (by omega)
  refine ⟨by rw [← hr]; exact hX,?_⟩
  rw [← hr]; exact Nat.mul_mod_left ..
 ·rintro ⟨a1,a2⟩
  have hr : r = t * 2 ^ j:=by rw [g5,Nat.mul_comm]; omega
  have hX : X = t * t * 2 ^ (2 * j):=by rw [← a1,hr,ZfD]
  refine ⟨?_,by rw [hX]; exact Nat.mul_mod_left ..⟩
  rw [hX,Nat.mul_div_cancel _ hq]
theorem ZFG (F : Fm) (md : Int) (neg : Bool) {X r t j : Nat} (E : Int) (h1 : r * r≤X) (h2 : X < (r + 1) * (r + 1)) (h3 : t * t≤X / 2 ^ (2 * j)) (h4 : X / 2 ^ (2 * j) < (t + 1) * (t + 1)) (h : F.fr + 2≤blen t) :
  sW F md neg t (!decide (X % 2 ^ (2 * j) = 0) || !decide (t * t = X / 2 ^ (2 * j))) (E + j) = sW F md neg r (!decide (r * r = X)) E:=by
 obtain ⟨e1,e2⟩:=Zzw h1 h2 h3 h4
 have hbl:=Zah r j
 rw [← e1] at hbl
 have h5:=ZgK F md neg (Q:=r) (j:=j) (!decide (r * r = X)) E (by omega)
 rw [← e1] at h5
 rw [← h5]
 congr 1
 rw [Bool.eq_iff_iff]
 simp only [Bool.or_eq_true,Bool.not_eq_true',decide_eq_true_eq,decide_eq_false_iff_not,ne_eq]
 by_cases h6 : t * t = X / 2 ^ (2 * j) <;> by_cases h7 : X % 2 ^ (2 * j) = 0 <;> by_cases h8 : r * r = X <;> by_cases h9 : r % 2 ^ j = 0 <;> simp_all
def quoW (F : Fm) (md : Int) (a b : Dy) : Nat × Nat :=
 sW F md (a.n != b.n) (a.m * 2 ^ quoN 64 a.m b.m / b.m) (!decide (a.m * 2 ^ quoN 64 a.m b.m % b.m = 0)) (a.e - b.e - (quoN 64 a.m b.m : Nat))
theorem ZEW (o1 o2 : Bool) : (!o1 || !o2) = (!o2 || !o1):=by cases o1 <;> cases o2 <;> rfl
theorem head64 {w : Nat} (h : blen w = 64) : headN w = w∧behindN w = false:=by
 unfold headN behindN
 rw [if_pos (by omega),if_pos (by omega),h]
 exact ⟨Nat.mul_one w,rfl⟩
theorem ZzZ {n : Bool} {w : Nat} {e : Int} (h : blen w = 64) : headN (mkD n w e).m = w∧behindN (mkD n w e).m = false∧(mkD n w e).e + (blen (mkD n w e).m : Int) = e + 64∧(mkD n w e).m≠0∧(mkD n w e).n = n:=by
 have h0 : w≠0:=by rintro rfl; rw [Zai] at h; omega
 have t1:=(Zev h0).1
 have hb:=Zah w (tz w)
 have hz:=Zgw h0
 have hm' : w / 2 ^ tz w≠0:=by intro hc; rw [hc,Zai] at hb; omega
 obtain ⟨e1,e2⟩:=ZtJ hm' (tz w)
 rw [← t1] at e1 e2
 rw [Zal h0]
 simp only
 rw [← e1,← e2]
 exact ⟨(head64 h).1,(head64 h).2,by omega,hm',by trivial⟩
theorem ZtF (F : Fm) : F.fr + 2≤54:=by cases F <;> decide
theorem Zps (J : Al G T g) (F : Fm) {m : Int} (hm : 1≤m∧m≤5) {z y : Bool} {a b : Dy} (da : mayD a.n (dl a.m) a.e = true) (db : mayD b.n (dl b.m) b.e = true)
  (ha : a.m≠0) (hb : b.m≠0) (hw : quoN 64 a.m b.m + blen a.m≤131072) :
  run G T 15 [.int .u8 F.u,.int .u8 m,DyA z a,DyA y b] = some (.tup [.int .u64 ((quoW F m a b).1 : Int),.int .u8 ((quoW F m a b).2 : Int),.int .i64 0]):=by
 rw [Zab G T J.E.Zps]
 obtain ⟨f1,f2,f3,f4,f5⟩:=Zcq da
 obtain ⟨g1,g2,g3,g4,g5⟩:=Zcq db
 have o1:=ZuT J F hm (n:=a.n) (z:=z) (n':=b.n) (z':=y) (Zaq a.m) (Zaq b.m) (e:=a.e) (e':=b.e)
 rw [da,db,Bool.and_self,if_pos rfl] at o1
 have s1:=ZcL J (n:=a.n) (z:=z) (Zaq a.m) (e:=a.e)
 rw [ZgI da,if_neg ha] at s1
 have s2:=ZcL J (n:=b.n) (z:=y) (Zaq b.m) (e:=b.e)
 rw [ZgI db,if_neg hb] at s2
 have bound : ∀ {n : Bool} {m : Nat} {e : Int},mayD n (dl m) e = true→m≠0→mayD false (dl m) 0 = true:=by
  intro n m e hx hx0
  have h1 : ¬ (dl m).length = 0:=by rw [Zap]; exact hx0
  simp only [mayD] at hx ⊢
  rw [if_neg h1] at hx ⊢
  simp only [Bool.and_eq_true,decide_eq_true_eq] at hx ⊢
  exact ⟨hx.1,hx.2.1,by omega⟩
 have hqb:=ZkF (k:=64) ha hb
 obtain ⟨S,hS⟩ : ∃ S,blen (a.m * 2 ^ quoN 64 a.m b.m / b.m) = 64 + S:=⟨blen (a.m * 2 ^ quoN 64 a.m b.m / b.m) - 64,by omega⟩
 obtain ⟨zq,q1⟩:=ZsE J (z:=z) (y:=y) (a:=⟨false,a.m,0⟩) (b:=⟨false,b.m,0⟩) (k:=64) (S:=S) (bound da ha) (bound db hb) ha hb (by omega) hw ⟨by simp,by simp⟩ ⟨by simp,by simp⟩ hS
 simp only at q1
 rw [show ((64 : Nat) : Int) = 64 from rfl] at q1
 have bS:=Zah (a.m * 2 ^ quoN 64 a.m b.m / b.m) S
 have hb64 : blen (a.m * 2 ^ quoN 64 a.m b.m / b.m / 2 ^ S) = 64:=by omega
 have hq1:=quoN
 have hN : quoN 64 a.m b.m = 64 + 1 + blen b.m - blen a.m:=rfl
 have bS2:=Zam (Nat.div_le_self (a.m * 2 ^ quoN 64 a.m b.m) b.m)
 rw [Zan ha] at bS2
 have bbm:=ZdF g1
 have W : quoW F m a b = partW F m (a.n != b.n) (a.m * 2 ^ quoN 64 a.m b.m / b.m / 2 ^ S) (!decide (a.m * 2 ^ quoN 64 a.m b.m / b.m % 2 ^ S = 0) || !decide (a.m * 2 ^ quoN 64 a.m b.m % b.m = 0))
   ((0 : Int) - 0 - (quoN 64 a.m b.m : Nat) + S + 64 + (a.e - b.e)):=by
  rw [Zso _ _ _ _ _ hb64]
  have:=ZgK F m (a.n != b.n) (Q:=a.m * 2 ^ quoN 64 a.m b.m / b.m) (j:=S) (!decide (a.m * 2 ^ quoN 64 a.m b.m % b.m = 0)) (a.e - b.e - (quoN 64 a.m b.m : Nat)) (by have:=ZtF F; omega)
  unfold quoW
  simp only [ne_eq,decide_not] at this
  rw [← this,ZEW,show (0 : Int) - 0 - (quoN 64 a.m b.m : Nat) + S + 64 + (a.e - b.e) - 64 = a.e - b.e - (quoN 64 a.m b.m : Nat) + S by omega]
 rw [W]
 clear W bS
 generalize a.m * 2 ^ quoN 64 a.m b.m / b.m % 2 ^ S = R1 at *
 generalize a.m * 2 ^ quoN 64 a.m b.m % b.m = R2 at *
 generalize a.m * 2 ^ quoN 64 a.m b.m / b.m / 2 ^ S = Q at *
 generalize a.m * 2 ^ quoN 64 a.m b.m / b.m = Q0 at *
 have hX : -2000000 < (0 : Int) - 0 - (quoN 64 a.m b.m : Nat) + S∧(0 : Int) - 0 - (quoN 64 a.m b.m : Nat) + S < 2000000:=by omega
 generalize (0 : Int) - 0 - (quoN 64 a.m b.m : Nat) + S = X at *
 obtain ⟨k1,k2,k3,k4,k5⟩:=ZzZ (n:=false != false) (e:=X) hb64
 have hd:=Zal (n:=false != false) (m:=Q) (by rintro rfl; rw [Zai] at hb64; omega) X
 have hQ0 : Q≠0:=by rintro rfl; rw [Zai] at hb64; omega
 have tq:=Zgw hQ0
 have hmm : mayL (dl (mkD (false != false) Q X).m) = true:=Zak (by
  have:=Zah Q (tz Q)
  rw [hd]; simp only; omega)
 have p1:=Zgj J (z:=zq) (d:=mkD (false != false) Q X) hmm k4 (by rw [hd]; simp only; omega)
 rw [k1,k2,k3] at p1
 have w1:=Zon J F hm (neg:=a.n != b.n) (more:=!decide (R1 = 0) || !decide (R2 = 0)) (w:=Q) (top:=X + 64 + (a.e - b.e)) hb64 (by omega)
 have wa : IntKind.i64.wrap (a.e - b.e) = a.e - b.e:=Zac (by omega)
 have wb : IntKind.i64.wrap (X + 64 + (a.e - b.e)) = X + 64 + (a.e - b.e):=Zac (by omega)
 clear k1 k2 k3 k4 k5 hd tq hmm hb64 hw hN hqb hS bS2 bbm f1 f2 f3 f4 f5 g1 g2 g3 g4 g5 da db bound hX hq1
 obtain ⟨na,ma,ea⟩:=a
 obtain ⟨nb,mb,eb⟩:=b
 simp only at *
 have hne : (na != nb) = !decide (na = nb):=by cases na <;> cases nb <;> rfl
 rw [hne] at w1 ⊢
 have c1 : ¬ (if na = true then (-1 : Int) else 1) = 0:=by split <;> decide
 have c2 : ¬ (if nb = true then (-1 : Int) else 1) = 0:=by split <;> decide
 generalize (if na = true then (-1 : Int) else 1) = sa at *
 generalize (if nb = true then (-1 : Int) else 1) = sb at *
 generalize (!decide (R1 = 0) || !decide (R2 = 0)) = lost at *
 simp only [DyA,A3,fmA,partA] at *
 cases lost <;> (
  repeat' (first|simp (maxSteps:=9^7) only [seval,exC,Zke,o1,s1,s2,c1,c2,q1,p1,wa,wb,w1]|simp (maxSteps:=9^7) (disch:=first|with_reducible assumption|omega) only [dxB]|(simp only [kdB];split)|(simp only [kvB];split))
  all_goals try rfl)
def beyD (n : Bool) (q : Nat) (e : Int) (lost : Bool) : Dy:=if lost then mkD n (q * 2 ^ 2 + 1) (e - 2) else mkD n q e
theorem ZpQ {n : Bool} {q : Nat} {e : Int} (hq : blen q = 60) : (mkD n q e).n = n∧topD (mkD n q e) = e + 60∧addD (mkD n q e) ⟨n,1,e - 2⟩ = mkD n (q * 2 ^ 2 + 1) (e - 2):=by
 have h0 : q≠0:=by rintro rfl; rw [Zai] at hq; omega
 refine ⟨by rw [Zal h0],by rw [ZAE h0,hq]; rfl,?_⟩
 have t1:=(Zev h0).1
 have hb:=Zah q (tz q)
 have hz:=Zgw h0
 have hm' : q / 2 ^ tz q≠0:=by intro hc; rw [hc,Zai] at hb; omega
 rw [Zal h0]
 unfold addD
 simp only
 rw [if_neg hm',if_neg (by decide),if_pos trivial,show min (e + (tz q : Int)) (e - 2) = e - 2 by omega,show (e + (tz q : Int) - (e - 2)).toNat = tz q + 2 by omega,show (e - 2 - (e - 2)).toNat = 0 by omega,Nat.pow_add,← Nat.mul_assoc,← t1]
theorem ZEh (F : Fm) (md : Int) (n : Bool) {q : Nat} {e : Int} {lost : Bool} (hq : blen q = 60) : rndW F md (beyD n q e lost) = sW F md n q lost e:=by
 have hF:=ZtF F
 unfold beyD
 cases lost
 ·rw [if_neg (by decide),Zuv F md n e (by omega)]
 ·have h0 : q≠0:=by rintro rfl; rw [Zai] at hq; omega
  have hb:=Zan h0 2
  have hb2:=Zam (show q * 2 ^ 2≤q * 2 ^ 2 + 1 by omega)
  rw [if_pos rfl,Zuv F md n (e - 2) (by omega)]
  exact ZyQ F md n (j:=2) e (by decide) (by omega)
theorem ZEC {n : Bool} {q : Nat} {e : Int} {lost : Bool} (hq : blen q = 60) (he : -100000000 < e∧e < 100000000) : Bd (beyD n q e lost) 134217728:=by
 unfold beyD
 split
 ·have h0 : q * 2 ^ 2 + 1≠0:=by omega
  have hb : blen (q * 2 ^ 2 + 1)≤63:=by
   have:=Zaf.1 (Nat.le_of_eq hq)
   refine Zaf.2 ?_
   omega
  exact ZoD (by omega) (by omega) (by omega)
 ·exact ZoD (by omega) (by omega) (by omega)
theorem ZDT (n : Bool) (q : Nat) (e : Int) (lost : Bool) : Nz (beyD n q e lost):=by
 unfold beyD; split <;> exact ZoH _ _ _
theorem Zim (J : Al G T g) {z n lost : Bool} {q : Nat} {e : Int} (hq : blen q = 60) (he : -100000000 < e∧e < 100000000) :
  ∃ z',run G T 42 [DyA z (mkD n q e),.bool lost] = some (DyA z' (beyD n q e lost)):=by
 apply exP
 rw [Zab G T J.E.Zim]
 obtain ⟨e1,e2,e3⟩:=ZpQ (n:=n) (e:=e) hq
 have bd : Bd (mkD n q e) 134217728:=ZoD (by omega) (by omega) (by omega)
 have hl:=Zaa (mkD n q e).m
 have s1:=Zer J (z:=z) (d:=mkD n q e) (by have:=bd.bl; omega) (by have:=bd.lo; have:=bd.hi; omega)
 rw [e2] at s1
 have s2:=Zny J (n:=e - 2)
 have b2 : Bd (twoD (e - 2)) 134217728:=ZEx (by omega) (by decide)
 unfold beyD
 rw [← e3]
 have w1 : IntKind.i64.wrap (e + 60 - 60) = e:=by rw [Zac (by omega)]; omega
 have w2 : IntKind.i64.wrap (e - 2) = e - 2:=Zac (by omega)
 cases n
 ·obtain ⟨z1,s3⟩:=Zex J (z:=z) (y:=false) (bd.mono (by decide)) (b2.mono (by decide))
  rw [show twoD (e - 2) = ⟨false,1,e - 2⟩ from rfl] at s3
  rw [show twoD (e - 2) = ⟨false,1,e - 2⟩ from rfl] at s2
  simp only [DyA,A3,e1] at *
  cases lost
  ·repeat' (first|simp (maxSteps:=9^7) only [seval,exC,ZbD]|simp (maxSteps:=9^7) (disch:=first|with_reducible assumption|omega) only [dxB]|(simp only [kdB];split)|(simp only [kvB];split))
   exact ⟨_,rfl,_,(by first | rfl | rw [(ZpQ (e:=e) hq).1])⟩
  ·repeat' (first|simp (maxSteps:=9^7) only [seval,exC,ZbD,s1,s2,s3,w1,w2]|simp (maxSteps:=9^7) (disch:=first|with_reducible assumption|omega) only [dxB]|(simp only [kdB];split)|(simp only [kvB];split))
   exact ⟨_,rfl,_,(by first | rfl | rw [(ZpQ (e:=e) hq).1])⟩
 ·obtain ⟨z1,s3⟩:=Zji J (z:=z) (y:=false) (bd.mono (by decide)) (b2.mono (by decide))
  have hneg : subD (mkD true q e) (twoD (e - 2)) = addD (mkD true q e) ⟨true,1,e - 2⟩:=rfl
  rw [hneg] at s3
  rw [show twoD (e - 2) = ⟨false,1,e - 2⟩ from rfl] at s3 s2
  simp only [DyA,A3,e1] at *
  cases lost
  ·repeat' (first|simp (maxSteps:=9^7) only [seval,exC,ZbD]|simp (maxSteps:=9^7) (disch:=first|with_reducible assumption|omega) only [dxB]|(simp only [kdB];split)|(simp only [kvB];split))
   exact ⟨_,rfl,_,(by first | rfl | rw [(ZpQ (e:=e) hq).1])⟩
  ·repeat' (first|simp (maxSteps:=9^7) only [seval,exC,ZbD,s1,s2,s3,w1,w2]|simp (maxSteps:=9^7) (disch:=first|with_reducible assumption|omega) only [dxB]|(simp only [kdB];split)|(simp only [kvB];split))
   exact ⟨_,rfl,_,(by first | rfl | rw [(ZpQ (e:=e) hq).1])⟩
theorem ZpM (J : Al G T g) (F : Fm) {m : Int} (hm : 1≤m∧m≤5) {z y : Bool} {a b : Dy} (ha : a.m≠0) (hb : b.m≠0) (ba : Bd a 33554432) (bb : Bd b 33554432)
  (la : blen a.m < 1048576) (lb : blen b.m < 1048576) :
  run G T 17 [.int .u8 F.u,.int .u8 m,DyA z a,DyA y b] = some (.tup [.int .u64 ((quoW F m a b).1 : Int),.int .u8 ((quoW F m a b).2 : Int)]):=by
 rw [Zab G T J.E.ZpM]
 have hqb:=ZkF (k:=60) ha hb
 obtain ⟨S,hS⟩ : ∃ S,blen (a.m * 2 ^ quoN 60 a.m b.m / b.m) = 60 + S:=⟨blen (a.m * 2 ^ quoN 60 a.m b.m / b.m) - 60,by omega⟩
 obtain ⟨ba1,ba2,ba3⟩:=ba
 obtain ⟨bb1,bb2,bb3⟩:=bb
 obtain ⟨z1,q1⟩:=Zpn J (z:=z) (y:=y) (a:=a) (b:=b) (k:=60) (S:=S) ha hb la lb (by omega) (by omega) (by omega) (by omega) hS
 rw [show ((60 : Nat) : Int) = 60 from rfl] at q1
 have bS:=Zah (a.m * 2 ^ quoN 60 a.m b.m / b.m) S
 have hb60 : blen (a.m * 2 ^ quoN 60 a.m b.m / b.m / 2 ^ S) = 60:=by omega
 have bS2:=Zam (Nat.div_le_self (a.m * 2 ^ quoN 60 a.m b.m) b.m)
 rw [Zan ha] at bS2
 have hN : quoN 60 a.m b.m = 60 + 1 + blen b.m - blen a.m:=rfl
 have hN' : quoN 64 a.m b.m = 64 + 1 + blen b.m - blen a.m:=rfl
 have hF:=ZtF F
 have W : quoW F m a b = sW F m (a.n != b.n) (a.m * 2 ^ quoN 60 a.m b.m / b.m / 2 ^ S) (!decide (a.m * 2 ^ quoN 60 a.m b.m / b.m % 2 ^ S = 0) || !decide (a.m * 2 ^ quoN 60 a.m b.m % b.m = 0)) (a.e - b.e - (quoN 60 a.m b.m : Nat) + S):=by
  have h1:=ZHR F m (a.n != b.n) (a:=a.m) (b:=b.m) (N:=quoN 60 a.m b.m) (j:=quoN 64 a.m b.m - quoN 60 a.m b.m) (a.e - b.e - (quoN 60 a.m b.m : Nat)) hb (by omega)
  rw [show quoN 60 a.m b.m + (quoN 64 a.m b.m - quoN 60 a.m b.m) = quoN 64 a.m b.m by omega,show a.e - b.e - (quoN 60 a.m b.m : Nat) - ((quoN 64 a.m b.m - quoN 60 a.m b.m : Nat) : Int) = a.e - b.e - (quoN 64 a.m b.m : Nat) by omega] at h1
  have h2:=ZgK F m (a.n != b.n) (Q:=a.m * 2 ^ quoN 60 a.m b.m / b.m) (j:=S) (!decide (a.m * 2 ^ quoN 60 a.m b.m % b.m = 0)) (a.e - b.e - (quoN 60 a.m b.m : Nat)) (by omega)
  unfold quoW
  simp only [ne_eq,decide_not] at h2
  rw [h1,← h2,ZEW]
 rw [W]
 clear W hF hN'
 have hX : -99000000 < a.e - b.e - (quoN 60 a.m b.m : Nat) + (S : Int)∧a.e - b.e - (quoN 60 a.m b.m : Nat) + (S : Int) < 99000000:=by omega
 clear hN bS2 bS hS hqb
 generalize a.e - b.e - (quoN 60 a.m b.m : Nat) + (S : Int) = X at *
 generalize (!decide (a.m * 2 ^ quoN 60 a.m b.m / b.m % 2 ^ S = 0) || !decide (a.m * 2 ^ quoN 60 a.m b.m % b.m = 0)) = lost at *
 generalize a.m * 2 ^ quoN 60 a.m b.m / b.m / 2 ^ S = Q at *
 obtain ⟨z2,q2⟩:=Zim J (z:=z1) (n:=a.n != b.n) (lost:=lost) (e:=X) hb60 (by omega)
 have q3:=ZcE J F hm (z:=z2) (x:=beyD (a.n != b.n) Q X lost) (ZDT _ _ _ _) (ZEC hb60 (by omega))
 rw [ZEh F m _ hb60] at q3
 simp only [DyA,A3] at *
 repeat' (first|simp (maxSteps:=9^7) only [seval,exC,ZjI,q1,q2,q3]|simp (maxSteps:=9^7) (disch:=first|with_reducible assumption|omega) only [dxB]|(simp only [kdB];split)|(simp only [kvB];split))
 all_goals try rfl
theorem ZvM : ∀ X : Nat,∃ r,r * r≤X∧X < (r + 1) * (r + 1):=by
 intro X
 induction X with
 | zero => exact ⟨0,by decide,by decide⟩
 | succ X ih =>
  obtain ⟨r,h1,h2⟩:=ih
  by_cases h : X + 1 < (r + 1) * (r + 1)
  ·exact ⟨r,by omega,h⟩
  ·refine ⟨r + 1,by omega,?_⟩
   have : (r + 1) * (r + 1) < (r + 1 + 1) * (r + 1 + 1):=Nat.mul_lt_mul_of_lt_of_le (Nat.lt_succ_self _) (Nat.le_succ _) (by omega)
   omega
noncomputable def isq (X : Nat) : Nat:=Classical.choose (ZvM X)
theorem ZoI (X : Nat) : isq X * isq X≤X∧X < (isq X + 1) * (isq X + 1):=Classical.choose_spec (ZvM X)
def rootP (e : Int) : Nat:=130 + (e % 2).toNat
noncomputable def rootW (F : Fm) (md : Int) (d : Dy) : Nat × Nat :=
 sW F md false (isq (d.m * 2 ^ rootP d.e)) (!decide (isq (d.m * 2 ^ rootP d.e) * isq (d.m * 2 ^ rootP d.e) = d.m * 2 ^ rootP d.e)) ((d.e - (rootP d.e : Nat)) / 2)
theorem ZFN {m P : Nat} {n : Int} (h : n≤P) : shN m n = m * 2 ^ P / 2 ^ ((P : Int) - n).toNat∧shB m n = !decide (m * 2 ^ P % 2 ^ ((P : Int) - n).toNat = 0):=by
 unfold shN shB
 by_cases h0 : 0≤n
 ·rw [if_pos h0,if_pos h0,ZjM (by omega),Zmv (by omega),show P - ((P : Int) - n).toNat = n.toNat by omega]
  exact ⟨rfl,rfl⟩
 ·rw [if_neg h0,if_neg h0,Zig (by omega),Zlh (by omega),show ((P : Int) - n).toNat - P = (-n).toNat by omega]
  have hp:=Nat.two_pow_pos P
  refine ⟨rfl,?_⟩
  congr 1
  refine decide_eq_decide.2 ?_
  constructor
  ·intro h1; rw [h1,Nat.zero_mul]
  ·intro h1
   rcases Nat.mul_eq_zero.1 h1 with h2 | h2
   ·exact h2
   ·omega
theorem ZwK (F : Fm) (md : Int) {m t : Nat} {e n c : Int} (h0 : n≤rootP e) (hc : e - n = 2 * c) (h1 : t * t≤shN m n) (h2 : shN m n < (t + 1) * (t + 1)) (hb : F.fr + 2≤blen t) (s : Bool) :
  sW F md false t (shB m n || !decide (t * t = shN m n)) c = rootW F md ⟨s,m,e⟩:=by
 have hP : rootP e = 130 + (e % 2).toNat:=rfl
 obtain ⟨e1,e2⟩:=ZFN (m:=m) h0
 obtain ⟨r1,r2⟩:=ZoI (m * 2 ^ rootP e)
 have hj : ((rootP e : Nat) - n).toNat = 2 * (((rootP e : Nat) - n).toNat / 2):=by omega
 rw [hj] at e1 e2
 have h3:=ZFG F md false (X:=m * 2 ^ rootP e) (r:=isq (m * 2 ^ rootP e)) (t:=t) (j:=((rootP e : Nat) - n).toNat / 2) ((e - (rootP e : Nat)) / 2) r1 r2 (by rw [← e1]; exact h1) (by rw [← e1]; exact h2) hb
 unfold rootW
 simp only
 rw [← h3,e2,e1,show (e - (rootP e : Nat)) / 2 + ((((rootP e : Nat) - n).toNat / 2 : Nat) : Int) = c by omega]
theorem Zme (J : Al G T g) (F : Fm) {m : Int} (hm : 1≤m∧m≤5) {z : Bool} {d : Dy} (dd : mayD d.n (dl d.m) d.e = true) (h0 : d.m≠0) (hs : d.n = false) :
  run G T 18 [.int .u8 F.u,.int .u8 m,DyA z d] = some (.tup [.int .u64 ((rootW F m d).1 : Int),.int .u8 ((rootW F m d).2 : Int),.int .i64 0]):=by
 rw [Zab G T J.E.Zme]
 obtain ⟨f1,f2,f3,f4,f5⟩:=Zcq dd
 have o1:=ZmI J F hm (n:=d.n) (z:=z) (Zaq d.m) (e:=d.e)
 rw [dd,if_pos rfl] at o1
 have s1:=ZcL J (n:=d.n) (z:=z) (Zaq d.m) (e:=d.e)
 rw [ZgI dd,if_neg h0,hs,if_neg (by decide)] at s1
 have hbm:=ZdF f1
 have hbp:=Zcz h0
 obtain ⟨n,hn⟩ : ∃ n : Int,n = 2 * ((64 : Nat) : Int) + 2 - blen d.m + (d.e - (2 * ((64 : Nat) : Int) + 2 - blen d.m)) % 2:=⟨_,rfl⟩
 have hP : rootP d.e = 130 + (d.e % 2).toNat:=rfl
 obtain ⟨c,hc⟩ : ∃ c : Int,d.e - n = 2 * c:=⟨(d.e - n) / 2,by omega⟩
 have hnP : n≤rootP d.e:=by omega
 have hbs:=ZvZ h0 (n:=n) (by omega)
 obtain ⟨r,r1,r2⟩:=ZvM (shN d.m n)
 have hrk : 64 < blen r:=Zjq (k:=64) (r:=r) (M:=shN d.m n) (by
  have:=Zbc (n:=shN d.m n) (by intro hc; rw [hc,Zai] at hbs; omega)
  rw [← Nat.pow_add]
  exact Nat.le_trans (Nat.pow_le_pow_right (by decide) (by omega)) this) r2
 obtain ⟨S,hS⟩ : ∃ S,blen r = 64 + S:=⟨blen r - 64,by omega⟩
 obtain ⟨zq,q1⟩:=Zqk J (z:=z) (d:=d) (k:=64) (S:=S) (n:=n) (c:=c) (r:=r) dd h0 hs (by omega) hn hc r1 r2 hS
 rw [show ((64 : Nat) : Int) = 64 from rfl] at q1
 have bS:=Zah r S
 have hb64 : blen (r / 2 ^ S) = 64:=by omega
 have hbr : blen r≤blen (shN d.m n):=Zam (Nat.le_trans (Nat.le_mul_self r) r1)
 have hF:=ZtF F
 have W : rootW F m d = partW F m false (r / 2 ^ S) (!decide (r % 2 ^ S = 0) || (shB d.m n || !decide (r * r = shN d.m n))) (c + S + 64):=by
  rw [Zso _ _ _ _ _ hb64]
  have h1:=ZwK F m (m:=d.m) (t:=r) (e:=d.e) (n:=n) (c:=c) hnP hc r1 r2 (by omega) d.n
  have h2:=ZgK F m false (Q:=r) (j:=S) (shB d.m n || !decide (r * r = shN d.m n)) c (by omega)
  simp only [ne_eq,decide_not] at h2
  rw [show rootW F m d = rootW F m ⟨d.n,d.m,d.e⟩ from rfl,← h1,← h2,Bool.or_comm,show c + (S : Int) + 64 - 64 = c + S by omega]
 rw [W]
 clear W bS hrk
 have hX : -10000000 < c + (S : Int)∧c + (S : Int) < 10000000:=by omega
 clear hnP hP hc hn hbs hbr r1 r2 hS hF
 generalize (!decide (r % 2 ^ S = 0) || (shB d.m n || !decide (r * r = shN d.m n))) = lost at *
 generalize c + (S : Int) = X at *
 generalize r / 2 ^ S = Q at *
 have hQ0 : Q≠0:=by rintro rfl; rw [Zai] at hb64; omega
 obtain ⟨k1,k2,k3,k4,k5⟩:=ZzZ (n:=false) (e:=X) hb64
 have hd:=Zal (n:=false) (m:=Q) hQ0 X
 have tq:=Zgw hQ0
 have hmm : mayL (dl (mkD false Q X).m) = true:=Zak (by
  have:=Zah Q (tz Q)
  rw [hd]; simp only; omega)
 have p1:=Zgj J (z:=zq) (d:=mkD false Q X) hmm k4 (by rw [hd]; simp only; omega)
 rw [k1,k2,k3] at p1
 have w1:=Zon J F hm (neg:=false) (more:=lost) (w:=Q) (top:=X + 64) hb64 (by omega)
 clear k1 k2 k3 k4 k5 hd tq hmm hb64 f1 f2 f3 f4 f5 dd hX hQ0 hbm hbp
 obtain ⟨ng,mm,e⟩:=d
 simp only at *
 subst hs
 simp only [DyA,A3,fmA,partA] at *
 cases lost <;> (
  repeat' (first|simp (maxSteps:=9^7) only [seval,exC,Zgp,o1,s1,q1,p1,w1]|simp (maxSteps:=9^7) (disch:=first|with_reducible assumption|omega) only [dxB]|(simp only [kdB];split)|(simp only [kvB];split))
  all_goals try rfl)
theorem Zmc (J : Al G T g) (F : Fm) {m : Int} (hm : 1≤m∧m≤5) {z : Bool} {d : Dy} (h0 : d.m≠0) (bd : Bd d 33554432) (lb : blen d.m < 1048576) :
  run G T 19 [.int .u8 F.u,.int .u8 m,DyA z d] = some (.tup [.int .u64 ((rootW F m d).1 : Int),.int .u8 ((rootW F m d).2 : Int)]):=by
 rw [Zab G T J.E.Zmc]
 have s1:=ZaY J (z:=z) (d:=d)
 have hs : ¬ sgnD d = 0:=by simp only [sgnD,if_neg h0]; split <;> decide
 obtain ⟨ba1,ba2,ba3⟩:=bd
 have hbp:=Zcz h0
 obtain ⟨N,hN⟩ : ∃ N : Nat,(N : Int) = max 0 (2 * ((60 : Nat) : Int) + 2 - blen d.m) + (d.e - max 0 (2 * ((60 : Nat) : Int) + 2 - blen d.m)) % 2 :=
  ⟨(max 0 (2 * ((60 : Nat) : Int) + 2 - blen d.m) + (d.e - max 0 (2 * ((60 : Nat) : Int) + 2 - blen d.m)) % 2).toNat,by omega⟩
 have hP : rootP d.e = 130 + (d.e % 2).toNat:=rfl
 obtain ⟨c,hc⟩ : ∃ c : Int,d.e - N = 2 * c:=⟨(d.e - N) / 2,by omega⟩
 have hnP : (N : Int)≤rootP d.e:=by omega
 have hsh : shN d.m (N : Int) = d.m * 2 ^ N∧shB d.m (N : Int) = false:=by
  unfold shN shB
  rw [if_pos (by omega),if_pos (by omega),Int.toNat_natCast]
  exact ⟨rfl,rfl⟩
 obtain ⟨r,r1,r2⟩:=ZvM (d.m * 2 ^ N)
 have hbN:=Zan h0 N
 have hrk : 60 < blen r:=Zjq (k:=60) (r:=r) (M:=d.m * 2 ^ N) (by
  have:=Zbc (n:=d.m * 2 ^ N) (by intro hc; rw [hc,Zai] at hbN; omega)
  rw [← Nat.pow_add]
  exact Nat.le_trans (Nat.pow_le_pow_right (by decide) (by omega)) this) r2
 obtain ⟨S,hS⟩ : ∃ S,blen r = 60 + S:=⟨blen r - 60,by omega⟩
 obtain ⟨z1,q1⟩:=Zor J (z:=z) (d:=d) (k:=60) (S:=S) (N:=N) (c:=c) (r:=r) h0 lb (by omega) (by omega) (by omega) hN hc r1 r2 hS
 rw [show ((60 : Nat) : Int) = 60 from rfl] at q1
 have bS:=Zah r S
 have hb60 : blen (r / 2 ^ S) = 60:=by omega
 have hbr : blen r≤blen (d.m * 2 ^ N):=Zam (Nat.le_trans (Nat.le_mul_self r) r1)
 have hF:=ZtF F
 have W : rootW F m d = sW F m false (r / 2 ^ S) (!decide (r % 2 ^ S = 0) || !decide (r * r = d.m * 2 ^ N)) (c + S):=by
  have h1:=ZwK F m (m:=d.m) (t:=r) (e:=d.e) (n:=N) (c:=c) hnP hc (by rw [hsh.1]; exact r1) (by rw [hsh.1]; exact r2) (by omega) d.n
  rw [hsh.1,hsh.2,Bool.false_or] at h1
  have h2:=ZgK F m false (Q:=r) (j:=S) (!decide (r * r = d.m * 2 ^ N)) c (by omega)
  simp only [ne_eq,decide_not] at h2
  rw [show rootW F m d = rootW F m ⟨d.n,d.m,d.e⟩ from rfl,← h1,← h2,ZEW]
 rw [W]
 clear W bS hrk
 have hX : -99000000 < c + (S : Int)∧c + (S : Int) < 99000000:=by omega
 clear hnP hP hc hN hbN hbr r1 r2 hS hF hsh
 generalize (!decide (r % 2 ^ S = 0) || !decide (r * r = d.m * 2 ^ N)) = lost at *
 generalize c + (S : Int) = X at *
 generalize r / 2 ^ S = Q at *
 obtain ⟨z2,q2⟩:=Zim J (z:=z1) (n:=false) (lost:=lost) (e:=X) hb60 (by omega)
 have q3:=ZcE J F hm (z:=z2) (x:=beyD false Q X lost) (ZDT _ _ _ _) (ZEC hb60 (by omega))
 rw [ZEh F m _ hb60] at q3
 simp only [DyA,A3] at *
 repeat' (first|simp (maxSteps:=9^7) only [seval,exC,Zgn,s1,hs,q1,q2,q3]|simp (maxSteps:=9^7) (disch:=first|with_reducible assumption|omega) only [dxB]|(simp only [kdB];split)|(simp only [kvB];split))
 all_goals try rfl
theorem ZpO (J : Al G T g) (F : Fm) {m : Int} (hm : 1≤m∧m≤5) {z : Bool} {d : Dy} (dd : mayD d.n (dl d.m) d.e = true) (h0 : d.m = 0) :
  run G T 18 [.int .u8 F.u,.int .u8 m,DyA z d] = some (.tup [.int .u64 0,.int .u8 0,.int .i64 0]):=by
 rw [Zab G T J.E.Zme]
 have o1:=ZmI J F hm (n:=d.n) (z:=z) (Zaq d.m) (e:=d.e)
 rw [dd,if_pos rfl] at o1
 have s1:=ZcL J (n:=d.n) (z:=z) (Zaq d.m) (e:=d.e)
 rw [ZgI dd,if_pos h0] at s1
 have hn : d.n = false:=((Zcq dd).2.1 (Zap.2 h0)).1
 simp only [DyA,A3,fmA,hn] at *
 repeat' (first|simp (maxSteps:=9^7) only [seval,exC,Zgp,o1,s1]|simp (maxSteps:=9^7) (disch:=first|with_reducible assumption|omega) only [dxB]|(simp only [kdB];split)|(simp only [kvB];split))
 all_goals try rfl
theorem Zqf (J : Al G T g) (F : Fm) {m : Int} {z : Bool} {d : Dy} (h0 : d.m = 0) :
  run G T 19 [.int .u8 F.u,.int .u8 m,DyA z d] = some (.tup [.int .u64 0,.int .u8 0]):=by
 rw [Zab G T J.E.Zmc]
 have s1:=ZaY J (z:=z) (d:=d)
 rw [show sgnD d = 0 by simp [sgnD,h0]] at s1
 simp only [DyA,A3] at *
 repeat' (first|simp (maxSteps:=9^7) only [seval,exC,Zgn,s1]|simp (maxSteps:=9^7) (disch:=first|with_reducible assumption|omega) only [dxB]|(simp only [kdB];split)|(simp only [kvB];split))
 all_goals try rfl
def cT (a b : List Nat) (k i : Nat) : Nat:=if i≤k then dg a i * dg b (k - i) else 0
def cS (a b : List Nat) (k : Nat) : Nat→Nat
 | 0 => 0
 | i + 1 => cS a b k i + cT a b k i
def cV (a b : List Nat) : Nat→Nat
 | 0 => 0
 | N + 1 => cV a b N + 4294967296 ^ N * cS a b N a.length
theorem ZIw (x : Nat) (a : List Nat) : dg (x :: a) 0 = x:=by rw [Zgv (by simp)]; rfl
theorem ZIR (x : Nat) (a : List Nat) (i : Nat) : dg (x :: a) (i + 1) = dg a i:=rfl
theorem Zzp (x : Nat) (a b : List Nat) (k : Nat) : ∀ i,cS (x :: a) b k (i + 1) = x * dg b k + (if k = 0 then 0 else cS a b (k - 1) i)
 | 0 => by
  simp only [cS,cT,ZIw,Nat.sub_zero,Nat.zero_le,if_true,Nat.zero_add]
  split <;> rfl
 | i + 1 => by
  rw [cS,Zzp x a b k i,cT,ZIR]
  by_cases h0 : k = 0
  ·rw [if_pos h0,if_pos h0,if_neg (by omega)]
  ·rw [if_neg h0,if_neg h0,cS,cT]
   by_cases h1 : i + 1≤k
   ·rw [if_pos h1,if_pos (by omega),show k - 1 - i = k - (i + 1) by omega,Nat.add_assoc]
   ·rw [if_neg h1,if_neg (by omega)]; rfl
theorem ZzM (x : Nat) (a b : List Nat) : ∀ N,cV (x :: a) b N = x * val (b.take N) + (if N = 0 then 0 else 4294967296 * cV a b (N - 1))
 | 0 => by simp [cV,val]
 | N + 1 => by
  rw [cV,ZzM x a b N,List.length_cons,Zzp,Zad,if_neg (show ¬ N + 1 = 0 by omega),Nat.add_sub_cancel]
  by_cases h0 : N = 0
  ·subst h0
   rw [if_pos rfl,if_pos rfl]; simp [cV,val]
  ·obtain ⟨M,rfl⟩ : ∃ M,N = M + 1:=⟨N - 1,by omega⟩
   rw [if_neg (show ¬ M + 1 = 0 by omega),if_neg (show ¬ M + 1 = 0 by omega),Nat.add_sub_cancel,cV]
   simp only [Nat.mul_add,Nat.pow_succ]
   generalize cV a b M = V
   generalize cS a b M a.length = S
   generalize val (b.take (M + 1)) = U
   generalize dg b (M + 1) = d
   generalize 4294967296 ^ M = p
   rw [Nat.mul_left_comm (p * 4294967296) x d,show p * 4294967296 * S = 4294967296 * (p * S) by rw [Nat.mul_comm p,Nat.mul_assoc]]
   omega
theorem ZDm (b : List Nat) : ∀ N,cV [] b N = 0
 | 0 => rfl
 | N + 1 => by rw [cV,ZDm b N,List.length_nil,cS,Nat.mul_zero]
theorem ZHL (b : List Nat) : ∀ (a : List Nat) (N : Nat),a.length + b.length≤N→cV a b N = val a * val b
 | [],N,_ => by rw [Zrz,Nat.zero_mul,ZDm]
 | x :: a,N,h => by
  rw [List.length_cons] at h
  rw [ZzM,List.take_of_length_le (by omega),if_neg (by omega),ZHL b a (N - 1) (by omega),Zax,Nat.add_mul,Nat.mul_assoc]
theorem ZDb {a b : List Nat} {k : Nat} : ∀ {i : Nat},i + b.length≤k + 1→cS a b k i = 0
 | 0,_ => rfl
 | i + 1,h => by
  rw [cS,ZDb (by omega),cT]
  split
  ·rw [Zky (l:=b) (by omega),Nat.mul_zero]
  ·rfl
theorem ZCJ {a b : List Nat} {k : Nat} : ∀ j,cS a b k (k + 1 + j) = cS a b k (k + 1)
 | 0 => rfl
 | j + 1 => by rw [← Nat.add_assoc,cS,ZCJ j,cT,if_neg (by omega)]; rfl
theorem ZHW (a b : List Nat) (k n : Nat) : cS a b k (min (k + 1) n) = cS a b k n:=by
 rcases Nat.lt_or_ge n (k + 1) with h | h
 ·rw [Nat.min_eq_right (by omega)]
 ·rw [Nat.min_eq_left h]
  have:=ZCJ (a:=a) (b:=b) (k:=k) (n - (k + 1))
  rw [show k + 1 + (n - (k + 1)) = n by omega] at this
  exact this.symm
theorem ZIS {a b : List Nat} (ha : Dg a) (hb : Dg b) (k i : Nat) : cT a b k i < 18446744073709551616:=by
 unfold cT; split
 ·have:=Zyk (ha.dg i) (hb.dg (k - i)) (show 0 < 4294967296 by decide) (show 0 < 4294967296 by decide); omega
 ·decide
theorem ZFj {a b : List Nat} (ha : Dg a) (hb : Dg b) (k : Nat) : ∀ i,cS a b k i≤i * 18446744073709551616
 | 0 => Nat.zero_le _
 | i + 1 => by
  have:=ZIS ha hb k i
  have:=ZFj ha hb k i
  rw [cS]; omega
theorem ZFZ {V A L p k S : Nat} (h : L + p * A = V) : L + p * ((A + S) % 4294967296) + p * 4294967296 * ((A + S) / 4294967296) = V + p * S:=by
 rw [Nat.mul_assoc,Nat.add_assoc,← Nat.mul_add,Nat.mod_add_div,Nat.mul_add]; omega
theorem ZHr {a h : Nat} (ha : a < 4294967296) : orI .u64 (a : Int) ((h : Int) * 4294967296 % 18446744073709551616) = ((a + h % 4294967296 * 4294967296 : Nat) : Int):=by
 have e : (h : Int) * 4294967296 % 18446744073709551616 = ((h % 4294967296 * 4294967296 : Nat) : Int):=by omega
 rw [e,or64 (by omega) (by omega),show (4294967296 : Nat) = 2 ^ 32 from rfl,Zmr (show a < 2 ^ 32 from ha)]
theorem ZpB {a b : List Nat} {z y : Bool} {k A : Nat} {v : AV} (ha : Dg a) (hb : Dg b) (hs : a.length < 1073741824) (hk : k < 2147483648) (hA : A < 1298074214633706907132624082305024) : ∀ (m i : Nat) (h : Heap) (low high : Nat),
  m + i = min (k + 1) a.length→k < b.length + i→low < 18446744073709551616→low + 18446744073709551616 * high = A + cS a b k i →
  Post (evL G T ZfS [(0,D z a),(1,D y b),(5,v),(6,.int .u64 (low : Int)),(7,.int .u64 (high : Int)),(8,.int .i64 (k : Int)),(10,.int .i64 (i : Int))] h) fun r =>
   ∃ e low' high',r = (.exit 2,(0,D z a) :: (1,D y b) :: (5,v) :: (6,.int .u64 ((low' : Nat) : Int)) :: (7,.int .u64 ((high' : Nat) : Int)) :: (8,.int .i64 (k : Int)) :: e,h)∧low' < 18446744073709551616∧low' + 18446744073709551616 * high' = A + cS a b k a.length
 | 0,i,h,low,high,hm,hi,hl,he => by
  rw [Zae G T (c:=ZfS) rfl]
  have hend:=ZHW a b k a.length
  rw [show min (k + 1) a.length = i by omega] at hend
  rw [hend] at he
  by_cases h1 : (i : Int)≤(k : Int)
  ·have h2 : ¬ (i : Int) < (a.length : Int):=by omega
   repeat (first | (simp (maxSteps:=9^7) only [seval,evB,Zds,h1,h2]) | (simp (disch:=omega) only [dsB]))
   exact Post.some ⟨_,_,_,rfl,hl,he⟩
  ·repeat (first | (simp (maxSteps:=9^7) only [seval,evB,Zds,h1]) | (simp (disch:=omega) only [dsB]))
   exact Post.some ⟨_,_,_,rfl,hl,he⟩
 | m + 1,i,h,low,high,hm,hi,hl,he => by
  rw [Zae G T (c:=ZfS) rfl]
  have h1 : (i : Int)≤(k : Int):=by omega
  have h2 : (i : Int) < (a.length : Int):=by omega
  have e7 : (i : Int) + 1 = ((i + 1 : Nat) : Int):=by omega
  have e8 : (k : Int) - (i : Int) = ((k - i : Nat) : Int):=by omega
  have hx:=ha.dg i
  have hy:=hb.dg (k - i)
  have hki : k - i < b.length:=by omega
  have w1 : (dg a i : Int) % 18446744073709551616 = dg a i:=by omega
  have w2 : (dg b (k - i) : Int) % 18446744073709551616 = dg b (k - i):=by omega
  have hM:=Zyk hx hy (show 0 < 4294967296 by decide) (show 0 < 4294967296 by decide)
  have hSb:=ZFj ha hb k i
  have w4 : (dg a i : Int) * (dg b (k - i) : Int) = ((dg a i * dg b (k - i) : Nat) : Int):=by rw [Int.natCast_mul]
  have hcs : cS a b k (i + 1) = cS a b k i + dg a i * dg b (k - i):=by rw [cS,cT,if_pos (by omega)]
  generalize dg a i * dg b (k - i) = p at *
  have w5 : (p : Int) % 18446744073709551616 = p:=by omega
  by_cases hc : low + p < 18446744073709551616
  ·have w6 : ((low : Int) + (p : Int)) % 18446744073709551616 = ((low + p : Nat) : Int):=by omega
   have w7 : ¬ ((low + p : Nat) : Int) < (p : Int):=by omega
   repeat (first | (simp (maxSteps:=9^7) only [seval,evB,Zds,h1,h2,e7,e8,w1,w2,w4,w5,w6,w7]) | (simp (disch:=omega) only [dsB]))
   exact ZpB ha hb hs hk hA m (i + 1) _ _ _ (by omega) (by omega) hc (by rw [hcs]; omega)
  ·have w6 : ((low : Int) + (p : Int)) % 18446744073709551616 = ((low + p - 18446744073709551616 : Nat) : Int):=by omega
   have w7 : ((low + p - 18446744073709551616 : Nat) : Int) < (p : Int):=by omega
   have w8 : ((high : Int) + 1) % 18446744073709551616 = ((high + 1 : Nat) : Int):=by omega
   repeat (first | (simp (maxSteps:=9^7) only [seval,evB,Zds,h1,h2,e7,e8,w1,w2,w4,w5,w6,w7,w8]) | (simp (disch:=omega) only [dsB]))
   exact ZpB ha hb hs hk hA m (i + 1) _ _ _ (by omega) (by omega) (by omega) (by rw [hcs]; omega)
theorem Zqe {a b : List Nat} {z y : Bool} (ha : Dg a) (hb : Dg b) (hs : a.length < 1073741824) (ht : b.length < 1073741824) : ∀ (m k : Nat) (h : Heap) (v : AV) (l : List Nat) (low high : Nat),
  m + k = a.length + b.length→Bld h v l→Dg l→l.length = k→low < 18446744073709551616→low + 18446744073709551616 * high < 1298074214633706907132624082305024 →
  val l + 4294967296 ^ k * (low + 18446744073709551616 * high) = cV a b k →
  Post (evL G T ZfJ [(0,D z a),(1,D y b),(5,v),(6,.int .u64 (low : Int)),(7,.int .u64 (high : Int)),(8,.int .i64 (k : Int))] h) fun r =>
   ∃ e h' v' l' c',r = (.exit 0,(0,D z a) :: (1,D y b) :: (5,v') :: e,h')∧Bld h' v' l'∧Dg l'∧l'.length = a.length + b.length∧val l' + 4294967296 ^ (a.length + b.length) * c' = val a * val b
 | 0,k,h,v,l,low,high,hm,B,hd,hl,hlow,hA,he => by
  rw [Zae G T (c:=ZfJ) rfl]
  have e1 : (a.length : Int) + (b.length : Int) = ((a.length + b.length : Nat) : Int):=by omega
  have h1 : ¬ (k : Int) < ((a.length + b.length : Nat) : Int):=by omega
  repeat (first | (simp (maxSteps:=9^7) only [seval,evB,ZfO,e1,h1]) | (simp (disch:=omega) only [dsB]))
  rw [show k = a.length + b.length by omega,ZHL b a _ (Nat.le_refl _)] at he
  exact Post.some ⟨_,_,_,_,_,rfl,B,hd,by omega,he⟩
 | m + 1,k,h,v,l,low,high,hm,B,hd,hl,hlow,hA,he => by
  rw [Zae G T (c:=ZfJ) rfl]
  have e1 : (a.length : Int) + (b.length : Int) = ((a.length + b.length : Nat) : Int):=by omega
  have h1 : (k : Int) < ((a.length + b.length : Nat) : Int):=by omega
  have e7 : (k : Int) + 1 = ((k + 1 : Nat) : Int):=by omega
  obtain ⟨i0,hi0⟩ : ∃ i0,i0 = k + 1 - b.length:=⟨_,rfl⟩
  have hlow0 : cS a b k i0 = 0:=by
   by_cases q : b.length≤k + 1
   ·exact ZDb (by omega)
   ·have : i0 = 0:=by omega
    rw [this]; rfl
  obtain ⟨_,hr,e,low',high',rfl,hlow',he'⟩:=ZpB (G:=G) (T:=T) (z:=z) (y:=y) (v:=v) (k:=k) (A:=low + 18446744073709551616 * high) ha hb hs (by omega) hA (min (k + 1) a.length - i0) i0 h low high (by omega) (by omega) hlow (by rw [hlow0]; rfl)
  have hSb:=ZFj ha hb k a.length
  have hstep:=ZFZ (S:=cS a b k a.length) (k:=k) he
  rw [← he'] at hstep
  have hacc : low' + 18446744073709551616 * high' < 2596148429267413814265248164610048:=by omega
  have hbnd : (low' + 18446744073709551616 * high') / 4294967296 < 1298074214633706907132624082305024:=by omega
  have hlo : (low' + 18446744073709551616 * high') % 4294967296 = low' % 4294967296:=by omega
  have hnew : low' / 4294967296 + high' % 4294967296 * 4294967296 + 18446744073709551616 * (high' / 4294967296) = (low' + 18446744073709551616 * high') / 4294967296:=by omega
  rw [hlo,← hnew] at hstep
  rw [← hnew] at hbnd
  clear hlo hnew hSb
  have w2 : (low' : Int) % 4294967296 = ((low' % 4294967296 : Nat) : Int):=by omega
  have w3 : (low' : Int) / 4294967296 = ((low' / 4294967296 : Nat) : Int):=by omega
  have w4:=ZHr (a:=low' / 4294967296) (h:=high') (by omega)
  have w5 : (high' : Int) / 4294967296 = ((high' / 4294967296 : Nat) : Int):=by omega
  have hm1 : low' % 4294967296 < 4294967296:=Nat.mod_lt _ (by decide)
  have hq : low' / 4294967296 + high' % 4294967296 * 4294967296 < 18446744073709551616:=by omega
  have key : val (l ++ [low' % 4294967296]) + 4294967296 ^ (k + 1) * (low' / 4294967296 + high' % 4294967296 * 4294967296 + 18446744073709551616 * (high' / 4294967296)) = cV a b (k + 1):=by
   rw [ZdD,hl,Nat.pow_succ,cV]; exact hstep
  have B2:=(Zdp B (w:=((low' % 4294967296 : Nat) : Int)) (by omega) (by omega)).2
  rw [Int.toNat_natCast] at B2
  by_cases h2 : (b.length : Int)≤(k : Int)
  ·have e8 : (k : Int) - (b.length : Int) = ((k - b.length : Nat) : Int):=by omega
   have e9 : ((k - b.length : Nat) : Int) + 1 = (i0 : Int):=by omega
   repeat (first | (simp (maxSteps:=9^7) only [seval,evB,ZfO,e1,h1,h2,e8,e9,hr,w2,w3,w4,w5,e7 ]) | (simp (disch:=omega) only [dsB,Zmh B]))
   exact Zqe ha hb hs ht m (k + 1) _ _ _ _ _ (by omega) B2 (Zcc hd hm1) (by rw [List.length_append,hl]; rfl) hq hbnd key
  ·have hz : i0 = 0:=by omega
   subst hz
   rw [cast0] at hr
   repeat (first | (simp (maxSteps:=9^7) only [seval,evB,ZfO,e1,h1,h2,hr,w2,w3,w4,w5,e7 ]) | (simp (disch:=omega) only [dsB,Zmh B]))
   exact Zqe ha hb hs ht m (k + 1) _ _ _ _ _ (by omega) B2 (Zcc hd hm1) (by rw [List.length_append,hl]; rfl) hq hbnd key
theorem Zqc (J : Al G T g) {z y : Bool} {a b : Nat} (hs : (dl a).length < 1073741824) (ht : (dl b).length < 1073741824) : ∃ z',run G T 158 [D z (dl a),D y (dl b)] = some (D z' (dl (a * b))):=by
 apply exP
 rw [Zab G T J.F.Zqc]
 by_cases h1 : ((dl a).length : Int) = 0
 ·have ha : a = 0:=Zap.1 (by omega)
  repeat (first | (simp (maxSteps:=9^7) only [seval,evB,Zfu,h1]) | (simp (disch:=omega) only [dsB]))
  rw [ha,Nat.zero_mul,Zaj]
  exact Post.some ⟨true,rfl⟩
 ·by_cases h2 : ((dl b).length : Int) = 0
  ·have hb : b = 0:=Zap.1 (by omega)
   repeat (first | (simp (maxSteps:=9^7) only [seval,evB,Zfu,h1,h2]) | (simp (disch:=omega) only [dsB]))
   rw [hb,Nat.mul_zero,Zaj]
   exact Post.some ⟨true,rfl⟩
  ·obtain ⟨_,hr,e,h',v',l',c',rfl,B,hd,hl,hv⟩:=Zqe (G:=G) (T:=T) (z:=z) (y:=y) (Zaq a) (Zaq b) hs ht ((dl a).length + (dl b).length) 0 .nil .nil [] 0 0 rfl ZrL Dg.nil rfl (by decide) (by decide) rfl
   rw [cast0] at hr
   have hva:=Zfa (Zaq a)
   have hvb:=Zfa (Zaq b)
   have hc0 : val l' = a * b:=by
    rw [Zay] at hva hvb hv
    rw [Zay] at hv
    have hlt : a * b < 4294967296 ^ ((dl a).length + (dl b).length):=by
     rw [Nat.pow_add]; exact Nat.mul_lt_mul_of_lt_of_lt hva hvb
    rcases Nat.eq_zero_or_pos c' with hc | hc
    ·rw [hc,Nat.mul_zero,Nat.add_zero] at hv; exact hv
    ·have:=Nat.mul_le_mul_left (4294967296 ^ ((dl a).length + (dl b).length)) hc
     omega
   obtain ⟨z',hz⟩:=Zcu J (z:=isN v') hd (by omega)
   rw [hc0] at hz
   repeat (first | (simp (maxSteps:=9^7) only [seval,evB,Zfu,h1,h2,hr,B.snap,hz]) | (simp (disch:=omega) only [dsB]))
   exact Post.some ⟨_,rfl⟩
theorem Zjj (J : Al G T g) {z y : Bool} {a b : Dy} (ha : (dl a.m).length < 1073741824) (hb : (dl b.m).length < 1073741824) (ea : -274877906944 < a.e∧a.e < 274877906944) (eb : -274877906944 < b.e∧b.e < 274877906944) :
  ∃ z',run G T 154 [DyA z a,DyA y b] = some (DyA z' (mkD (a.n != b.n) (a.m * b.m) (a.e + b.e))):=by
 obtain ⟨n,m,e⟩:=a
 obtain ⟨n',m',e'⟩:=b
 simp only at *
 obtain ⟨z1,h1⟩:=Zqc J (z:=z) (y:=y) (a:=m) (b:=m') ha hb
 have hl : (dl (m * m')).length < 17179869184:=by
  have h1:=ZbX.1 (Nat.le_refl (dl m).length)
  have h2:=ZbX.1 (Nat.le_refl (dl m').length)
  have h3 : (dl (m * m')).length≤(dl m).length + (dl m').length:=by
   rw [ZbX,Nat.pow_add]; exact Nat.mul_lt_mul_of_lt_of_lt h1 h2
  omega
 obtain ⟨z2,h2⟩:=ZaI J (n:=n != n') (z:=z1) (a:=m * m') (e:=e + e') hl (by omega)
 have w1 : IntKind.i64.wrap (e + e') = e + e':=Zac (by omega)
 have hne : (n != n') = !decide (n = n'):=by cases n <;> cases n' <;> rfl
 refine ⟨z2,?_⟩
 rw [hne] at h2 ⊢
 rw [Zab G T J.F.Zjj]
 simp only [DyA,A3] at *
 repeat' (first|simp (maxSteps:=9^7) only [seval,exC,Zkj,h1,w1,h2]|simp (maxSteps:=9^7) (disch:=first|with_reducible assumption|omega) only [dxB]|(simp only [kdB];split)|(simp only [kvB];split))
theorem ZAI {x y a b : Nat} (hx : blen x≤a) (hy : blen y≤b) : blen (x * y)≤a + b:=by
 refine Zaf.2 ?_
 rw [Nat.pow_add]
 exact Nat.mul_lt_mul_of_lt_of_lt (Zaf.1 hx) (Zaf.1 hy)
theorem Zob {n : Bool} {m : Nat} {e : Int} (h : m % 2 = 1) : mkD n m e = ⟨n,m,e⟩:=by
 rw [Zal (by omega),ZtK h,Nat.pow_zero,Nat.div_one]; simp
theorem ZlR {n : Bool} {m : Nat} {e : Int} (h : m % 2 = 1) (j : Nat) : mkD n (m * 2 ^ j) (e - j) = ⟨n,m,e⟩:=by
 have hp:=Nat.two_pow_pos j
 have h0 : m * 2 ^ j≠0:=by
  intro hc
  rcases Nat.mul_eq_zero.1 hc with h1 | h1 <;> omega
 rw [Zal h0,Zeq h,Nat.mul_div_cancel _ hp,show e - (j : Int) + j = e by omega]
theorem ZuD {a b : Nat} (ha : a % 2 = 1) (hb : b % 2 = 1) : a * b % 2 = 1:=by rw [Nat.mul_mod,ha,hb]
theorem ZBP (F : Fm) (md : Int) {n n' : Bool} {m m' : Nat} {e e' : Int} (ho : m % 2 = 1) (ho' : m' % 2 = 1) : quoW F md (mkD (n != n') (m * m') (e + e')) ⟨n',m',e'⟩ = rndW F md ⟨n,m,e⟩:=by
 have hF:=ZtF F
 rw [Zob (ZuD ho ho')]
 unfold quoW
 simp only
 have hq:=ZkF (k:=64) (a:=m * m') (b:=m') (by have:=ZuD ho ho'; omega) (by omega)
 generalize quoN 64 (m * m') m' = N at *
 have e1 : m * m' * 2 ^ N = m * 2 ^ N * m':=by rw [Nat.mul_assoc,Nat.mul_assoc,Nat.mul_comm m']
 rw [e1,Nat.mul_div_cancel _ (by omega),Nat.mul_mod_left]
 rw [e1,Nat.mul_div_cancel _ (by omega)] at hq
 have h1:=Zuv F md n (M:=m * 2 ^ N) (e - N) (by omega)
 rw [ZlR ho] at h1
 rw [h1,show e + e' - e' - (N : Int) = e - N by omega]
 cases n <;> cases n' <;> rfl
def Fm.nan (F : Fm) : Nat:=F.most * 2 ^ F.fr + 2 ^ (F.fr - 1)
theorem Zlu {F : Fm} {w : Nat} (h : w < 2 * F.sg) : w = w % F.sg + F.sgn (F.ng w)∧w % F.sg = 2 ^ F.fr * F.ex w + F.fc w∧F.fc w < 2 ^ F.fr∧F.ex w≤F.most:=by
 have hp:=Nat.two_pow_pos F.fr
 have hsg : F.sg = 2 ^ F.fr * (F.most + 1):=by cases F <;> decide
 have h0 : 0 < F.sg:=by cases F <;> decide
 refine ⟨?_,(Nat.div_add_mod _ _).symm,Nat.mod_lt _ hp,?_⟩
 ·unfold Fm.ng Fm.sgn
  by_cases h1 : F.sg≤w
  ·rw [decide_eq_true h1,if_pos rfl,Nat.mod_eq_sub_mod h1,Nat.mod_eq_of_lt (by omega)]; omega
  ·rw [decide_eq_false h1,if_neg (by decide),Nat.mod_eq_of_lt (by omega)]; rfl
 ·have h1:=Nat.mod_lt w h0
  have : w % F.sg / 2 ^ F.fr < F.most + 1:=Nat.div_lt_of_lt_mul (by rw [← hsg]; exact h1)
  unfold Fm.ex; omega
theorem ZaN (F : Fm) (w : Nat) : F.cls w = 1∨F.cls w = 2∨F.cls w = 3∨F.cls w = 4∨F.cls w = 5:=by
 unfold Fm.cls; repeat' split
 all_goals omega
theorem Zyq {F : Fm} {w : Nat} (h : w < 2 * F.sg) : F.cls w = 1↔w % F.sg = 0:=by
 obtain ⟨h1,h2,h3,h4⟩:=Zlu h
 have hp:=Nat.two_pow_pos F.fr
 rw [h2]
 unfold Fm.cls
 generalize F.ex w = x at *
 generalize F.fc w = y at *
 constructor
 ·intro hc
  have hx : x = 0∧y = 0:=by
   by_cases a : x = 0
   ·by_cases b : y = 0
    ·exact ⟨a,b⟩
    ·rw [if_pos a,if_neg b] at hc; omega
   ·rw [if_neg a] at hc
    split at hc
    ·omega
    ·split at hc <;> omega
  rw [hx.1,hx.2]; rfl
 ·intro hc
  have hy : y = 0:=by omega
  have hx : x = 0:=by
   rcases Nat.mul_eq_zero.1 (show 2 ^ F.fr * x = 0 by omega) with q | q
   ·omega
   ·exact q
  rw [if_pos hx,if_pos hy]
theorem ZBl {F : Fm} {w : Nat} (h : w < 2 * F.sg) : F.cls w = 4↔w % F.sg = F.most * 2 ^ F.fr:=by
 obtain ⟨h1,h2,h3,h4⟩:=Zlu h
 have hp:=Nat.two_pow_pos F.fr
 have hm0 : 0 < F.most:=by cases F <;> decide
 rw [h2]
 unfold Fm.cls
 generalize F.ex w = x at *
 generalize F.fc w = y at *
 constructor
 ·intro hc
  by_cases a : x = 0
  ·rw [if_pos a] at hc; split at hc <;> omega
  ·rw [if_neg a] at hc
   by_cases b : x < F.most
   ·rw [if_pos b] at hc; omega
   ·rw [if_neg b] at hc
    by_cases c : y = 0
    ·rw [c,show x = F.most by omega,Nat.mul_comm]; rfl
    ·rw [if_neg c] at hc; omega
 ·intro hc
  have hx : x = F.most:=by
   rcases Nat.lt_or_ge x F.most with q | q
   ·have:=Nat.mul_le_mul_left (2 ^ F.fr) q
    rw [Nat.mul_succ,Nat.mul_comm (2 ^ F.fr) F.most] at this
    omega
   ·omega
  have hy : y = 0:=by rw [hx,Nat.mul_comm] at hc; omega
  rw [if_neg (by omega),if_neg (by omega),if_pos hy]
theorem Zhl {F : Fm} {w : Nat} (h : w < 2 * F.sg) (hc : F.cls w = 1) : w = F.sgn (F.ng w)∧F.val w = ⟨false,0,0⟩:=by
 have h1:=(Zlu h).1
 rw [(Zyq h).1 hc,Nat.zero_add] at h1
 refine ⟨h1,?_⟩
 rw [h1]
 have:=ZoT F (F.ng w)
 rw [Nat.zero_add] at this
 exact this
theorem Zpi {F : Fm} {w : Nat} (h : w < 2 * F.sg) (hc : F.cls w = 4) : w = F.inf (F.ng w):=by
 have h1:=(Zlu h).1
 rw [(ZBl h).1 hc] at h1
 exact h1
theorem ZuM {F : Fm} {w : Nat} (h : w < 2 * F.sg) (h1 : F.cls w≠1) (h2 : F.fin w) : (F.val w).m≠0:=by
 obtain ⟨s,n,hw,q1,q2,q3⟩:=ZxM h
 have h0 : s≠0:=by
  rintro rfl
  apply h1
  rw [Zyq h,hw]
  exact (ZcR n q1).1
 rw [hw]; exact (Zla F 1 n (q2 h2) h0).2
def sumW (F : Fm) (md : Int) (d : Dy) : Nat × Nat:=if d.m = 0 then (F.sgn (decide (md = 5)),0) else rndW F md d
def addP (F : Fm) (md : Int) (c : Int) (n : Bool) (d : Dy) (c' : Int) (n' : Bool) (d' : Dy) : Nat × Nat :=
 if c = 5∨c' = 5 then (F.nan,0)
 else if c = 4∧c' = 4∧n≠n' then (F.nan,1)
 else if c = 4 then (F.inf n,0)
 else if c' = 4 then (F.inf n',0)
 else if c = 1∧c' = 1∧n = n' then (F.sgn n,0)
 else sumW F md (addD d d')
def mulD (a b : Dy) : Dy:=mkD (a.n != b.n) (a.m * b.m) (a.e + b.e)
def mulP (F : Fm) (md : Int) (c : Int) (n : Bool) (d : Dy) (c' : Int) (n' : Bool) (d' : Dy) : Nat × Nat :=
 if c = 5∨c' = 5 then (F.nan,0)
 else if (c = 4∨c' = 4)∧(c = 1∨c' = 1) then (F.nan,1)
 else if c = 4∨c' = 4 then (F.inf (n != n'),0)
 else if c = 1∨c' = 1 then (F.sgn (n != n'),0)
 else sumW F md (mulD d d')
def Fm.vl (F : Fm) (w : Nat) : Dy:=if F.fin w then F.val w else ⟨false,0,0⟩
def addW (F : Fm) (md : Int) (a b : Nat) : Nat × Nat:=addP F md (F.cls a) (F.ng a) (F.vl a) (F.cls b) (F.ng b) (F.vl b)
def subW (F : Fm) (md : Int) (a b : Nat) : Nat × Nat:=addP F md (F.cls a) (F.ng a) (F.vl a) (F.cls b) (!F.ng b) (negD (F.vl b))
def mulW2 (F : Fm) (md : Int) (a b : Nat) : Nat × Nat:=mulP F md (F.cls a) (F.ng a) (F.vl a) (F.cls b) (F.ng b) (F.vl b)
theorem ZAB {a b : Dy} (ha : Nz a) (hb : Nz b) : addD a b = addD b a:=by
 unfold addD
 by_cases h1 : a.m = 0
 ·by_cases h2 : b.m = 0
  ·rw [if_pos h1,if_pos h2,ha.1 h1,hb.1 h2]
  ·rw [if_pos h1,if_neg h2,if_pos h1]
 ·by_cases h2 : b.m = 0
  ·rw [if_neg h1,if_pos h2,if_pos h2]
  ·rw [if_neg h1,if_neg h2,if_neg h2,if_neg h1,Int.min_comm b.e a.e]
   generalize a.m * 2 ^ (a.e - min a.e b.e).toNat = x
   generalize b.m * 2 ^ (b.e - min a.e b.e).toNat = y
   by_cases h3 : a.n = b.n
   ·rw [if_pos h3,if_pos h3.symm,h3,Nat.add_comm]
   ·rw [if_neg h3,if_neg (show ¬ b.n = a.n from fun h => h3 h.symm)]
    by_cases h4 : y≤x
    ·by_cases h5 : x≤y
     ·rw [if_pos h4,if_pos h5,show x = y by omega,Nat.sub_self]; rfl
     ·rw [if_pos h4,if_neg h5]
    ·rw [if_neg h4,if_pos (by omega)]
def Fm.flip (F : Fm) (w : Nat) : Nat:=w % F.sg + F.sgn (!F.ng w)
theorem Zoi {F : Fm} {w : Nat} (h : w < 2 * F.sg) : F.flip w < 2 * F.sg∧F.ng (F.flip w) = !F.ng w∧F.cls (F.flip w) = F.cls w∧F.vl (F.flip w) = negD (F.vl w):=by
 have h0 : 0 < F.sg:=by cases F <;> decide
 have h1:=Nat.mod_lt w h0
 obtain ⟨e1,e2⟩:=ZcR (F:=F) (!F.ng w) h1
 have hx : F.ex (F.flip w) = F.ex w:=by unfold Fm.ex Fm.flip; rw [e1]
 have hy : F.fc (F.flip w) = F.fc w:=by unfold Fm.fc Fm.flip; rw [e1]
 refine ⟨?_,e2,?_,?_⟩
 ·unfold Fm.flip Fm.sgn; split <;> omega
 ·unfold Fm.cls; rw [hx,hy]
 ·have hn : F.ng (F.flip w) = !F.ng w:=e2
  have hff : F.fin (F.flip w)↔F.fin w:=by unfold Fm.fin; rw [hx]
  unfold Fm.vl
  by_cases h3 : F.fin w
  ·rw [if_pos h3,if_pos (hff.2 h3)]
   unfold Fm.val
   rw [hx,hy,hn]
   have hmk : ∀ (m : Nat) (e : Int),mkD (!F.ng w) m e = negD (mkD (F.ng w) m e):=fun m e => by
    by_cases hm : m = 0
    ·subst hm; rfl
    ·unfold negD; rw [if_neg (Zot hm e),Zal hm,Zal hm]
   split <;> exact hmk _ _
  ·rw [if_neg h3,if_neg (fun h => h3 (hff.1 h))]; rfl
theorem ZsJ (F : Fm) (md : Int) {a b : Nat} (hb : b < 2 * F.sg) : subW F md a b = addW F md a (F.flip b):=by
 obtain ⟨h1,h2,h3,h4⟩:=Zoi hb
 unfold subW addW; rw [h2,h3,h4]
theorem ZbJ (F : Fm) (w : Nat) : Nz (F.vl w):=by
 unfold Fm.vl; split
 ·unfold Fm.val; split <;> exact ZoH _ _ _
 ·exact ⟨fun _ => rfl,fun h => absurd rfl h⟩
theorem ZeZ (F : Fm) (w : Nat) : Bd (F.vl w) 4096:=by
 unfold Fm.vl; split
 ·rename_i h; exact ZHI F h
 ·exact ⟨by simp only [Zai]; omega,by simp,by simp⟩
theorem Zag {F : Fm} {w : Nat} : F.fin w↔F.cls w = 1∨F.cls w = 2∨F.cls w = 3:=by
 have h1:=ZAW F w
 have h2:=ZaN F w
 constructor
 ·intro h; have:=h1.1 h; omega
 ·intro h; exact h1.2 (by omega)
theorem ZhX {l : List Nat} {i v : Nat} (h : i < l.length) : val ((l.set i v).take (i + 1)) = val (l.take i) + 4294967296 ^ i * v:=by
 rw [Zad,List.take_set_of_le (Nat.le_refl i)]
 congr 2
 rw [Zgv (by rw [List.length_set]; exact h),List.getElem_set_self]
theorem Znj (J : Al G T g) {A B : List Nat} {z y : Bool} {b : Nat} (hA : Dg A) (hB : Dg B) (hs : A.length < 17179869184) (ht : B.length≤A.length) : ∀ (m i : Nat) (h : Heap) (l : List Nat) (c : Nat),
  m + i = A.length→Holds h b l→Dg l→l.length = A.length + 1→c≤1→val (l.take i) + 4294967296 ^ i * c = val (A.take i) + val (B.take i) →
  Post (evL G T Zip [(0,D z A),(1,D y B),(6,.own b 0 (A.length + 1) 1),(7,.int .u32 (c : Int)),(27,.int .i64 ((A.length : Nat) : Int)),(28,.int .i64 (i : Int))] h) fun r =>
   ∃ e h' l' c',r = (.exit 0,(0,D z A) :: (1,D y B) :: (6,.own b 0 (A.length + 1) 1) :: (7,.int .u32 ((c' : Nat) : Int)) :: e,h')∧Holds h' b l'∧Dg l'∧l'.length = A.length + 1∧c'≤1∧val (l'.take A.length) + 4294967296 ^ A.length * c' = val A + val B
 | 0,i,h,l,c,hm,H,hd,hl,hc,he => by
  rw [Zae G T (c:=Zip) rfl]
  have h1 : ¬ (i : Int) < (A.length : Int):=by omega
  repeat (first | (simp (maxSteps:=9^7) only [seval,evB,ZhT,h1]) | (simp (disch:=omega) only [dsB]))
  obtain rfl : i = A.length:=by omega
  rw [List.take_length,List.take_of_length_le ht] at he
  exact Post.some ⟨_,_,_,_,rfl,H,hd,hl,hc,he⟩
 | m + 1,i,h,l,c,hm,H,hd,hl,hc,he => by
  rw [Zae G T (c:=Zip) rfl]
  have h1 : (i : Int) < (A.length : Int):=by omega
  have e7 : (i : Int) + 1 = ((i + 1 : Nat) : Int):=by omega
  have hx:=hA.dg i
  have hy:=hB.dg i
  have hil : i < l.length:=by omega
  have hb:=Zjy J (x:=dg A i) (y:=dg B i) (w:=c) (d:=(dg A i + dg B i + c) % 4294967296) (z:=(dg A i + dg B i + c) / 4294967296) hx hy hc (Nat.mod_lt _ (by decide)) (by omega) (by omega)
  have key : val ((l.set i ((dg A i + dg B i + c) % 4294967296)).take (i + 1)) + 4294967296 ^ (i + 1) * ((dg A i + dg B i + c) / 4294967296) = val (A.take (i + 1)) + val (B.take (i + 1)):=by
   rw [ZhX hil,Zad,Zad,Nat.pow_succ,Nat.mul_assoc,Nat.add_assoc,← Nat.mul_add,Nat.mod_add_div,Nat.mul_add,Nat.mul_add]
   omega
  have hz : (dg A i + dg B i + c) / 4294967296≤1:=by omega
  have hm1 : (dg A i + dg B i + c) % 4294967296 < 4294967296:=Nat.mod_lt _ (by decide)
  by_cases h2 : (i : Int) < (B.length : Int)
  ·repeat (first | (simp (maxSteps:=9^7) only [seval,evB,ZhT,h1,h2,hb,e7 ]) | (simp (disch:=omega) only [dsB,Zcx H]))
   exact Znj J hA hB hs ht m (i + 1) _ _ _ (by omega) (H.put _) (Zeb hd hm1) (by rw [List.length_set]; exact hl) hz key
  ·have hg : dg B i = 0:=Zky (by omega)
   rw [hg] at hb key hz hm1
   rw [cast0] at hb
   repeat (first | (simp (maxSteps:=9^7) only [seval,evB,ZhT,h1,h2,hb,e7 ]) | (simp (disch:=omega) only [dsB,Zcx H]))
   exact Znj J hA hB hs ht m (i + 1) _ _ _ (by omega) (H.put _) (Zeb hd hm1) (by rw [List.length_set]; exact hl) hz key
theorem ZqA (J : Al G T g) {A B : List Nat} {z y : Bool} {b : Nat} (hA : Dg A) (hB : Dg B) (hs : A.length < 17179869184) (ht : B.length≤A.length) : ∀ (m i : Nat) (h : Heap) (l : List Nat) (c : Nat),
  m + i = A.length→Holds h b l→Dg l→l.length = A.length→c≤1→val (l.take i) + val (B.take i) = val (A.take i) + 4294967296 ^ i * c →
  Post (evL G T ZhW [(0,D z A),(1,D y B),(5,.own b 0 A.length 1),(6,.int .u32 (c : Int)),(13,.int .i64 ((A.length : Nat) : Int)),(14,.int .i64 (i : Int))] h) fun r =>
   ∃ e h' l' c',r = (.exit 0,(0,D z A) :: (1,D y B) :: (5,.own b 0 A.length 1) :: (6,.int .u32 ((c' : Nat) : Int)) :: e,h')∧Holds h' b l'∧Dg l'∧l'.length = A.length∧c'≤1∧val l' + val B = val A + 4294967296 ^ A.length * c'
 | 0,i,h,l,c,hm,H,hd,hl,hc,he => by
  rw [Zae G T (c:=ZhW) rfl]
  have h1 : ¬ (i : Int) < (A.length : Int):=by omega
  repeat (first | (simp (maxSteps:=9^7) only [seval,evB,Ziy,h1]) | (simp (disch:=omega) only [dsB]))
  obtain rfl : i = A.length:=by omega
  rw [List.take_length,List.take_of_length_le ht,List.take_of_length_le (by omega)] at he
  exact Post.some ⟨_,_,_,_,rfl,H,hd,hl,hc,he⟩
 | m + 1,i,h,l,c,hm,H,hd,hl,hc,he => by
  rw [Zae G T (c:=ZhW) rfl]
  have h1 : (i : Int) < (A.length : Int):=by omega
  have e7 : (i : Int) + 1 = ((i + 1 : Nat) : Int):=by omega
  have hx:=hA.dg i
  have hy:=hB.dg i
  have hil : i < l.length:=by omega
  obtain ⟨d,q,hdq,hd1,hq⟩ : ∃ d q,d + dg B i + c = dg A i + 4294967296 * q∧d < 4294967296∧q≤1:=by
   by_cases hlt : dg A i < dg B i + c
   ·exact ⟨dg A i + 4294967296 - (dg B i + c),1,by omega,by omega,by omega⟩
   ·exact ⟨dg A i - (dg B i + c),0,by omega,by omega,by omega⟩
  have hb:=Zjr J (x:=dg A i) (y:=dg B i) (w:=c) (d:=d) (z:=q) hx hy hc hd1 hq hdq
  have key : val ((l.set i d).take (i + 1)) + val (B.take (i + 1)) = val (A.take (i + 1)) + 4294967296 ^ (i + 1) * q:=by
   rw [ZhX hil,Zad,Zad,Nat.pow_succ,Nat.mul_assoc]
   have h2 : 4294967296 ^ i * d + 4294967296 ^ i * dg B i + 4294967296 ^ i * c = 4294967296 ^ i * dg A i + 4294967296 ^ i * (4294967296 * q):=by
    rw [← Nat.mul_add,← Nat.mul_add,← Nat.mul_add,hdq]
   omega
  by_cases h2 : (i : Int) < (B.length : Int)
  ·repeat (first | (simp (maxSteps:=9^7) only [seval,evB,Ziy,h1,h2,hb,e7 ]) | (simp (disch:=omega) only [dsB,Zcx H]))
   exact ZqA J hA hB hs ht m (i + 1) _ _ _ (by omega) (H.put _) (Zeb hd hd1) (by rw [List.length_set]; exact hl) hq key
  ·have hg : dg B i = 0:=Zky (by omega)
   rw [hg,cast0] at hb
   repeat (first | (simp (maxSteps:=9^7) only [seval,evB,Ziy,h1,h2,hb,e7 ]) | (simp (disch:=omega) only [dsB,Zcx H]))
   exact ZqA J hA hB hs ht m (i + 1) _ _ _ (by omega) (H.put _) (Zeb hd hd1) (by rw [List.length_set]; exact hl) hq key
theorem Zlz (J : Al G T g) {z : Bool} {l : List Nat} (h : l.length≤4096) : run G T 117 [D z l] = some (.tup [D z l,.int .i64 0]):=by
 rw [Zab G T J.A.Zlz]
 have h1 : ¬ (4096 : Int) < (l.length : Int):=by omega
 repeat (first | (simp (maxSteps:=9^7) only [seval,evB,Zkn,h1]) | (simp (disch:=omega) only [dsB]))
theorem ZuB (J : Al G T g) {z y : Bool} {a b : Nat} (ha : (dl a).length < 17179869184) (hab : b≤a) : ∃ z',run G T 116 [D z (dl a),D y (dl b)] = some (D z' (dl (a - b))):=by
 have hlen : (dl b).length≤(dl a).length:=by
  rw [ZbX]; exact Nat.lt_of_le_of_lt hab (ZbX.1 (Nat.le_refl _))
 obtain ⟨_,hr,e,h',l',c',rfl,H,hd,hl,hc,hv⟩:=ZqA (G:=G) (T:=T) (z:=z) (y:=y) (b:=Heap.nil.b.length) J (Zaq a) (Zaq b) ha hlen (dl a).length 0 (new .nil (List.replicate (dl a).length 0)) _ 0 (by omega) (Zbn FreH.nil _) (Zjf _) (by rw [List.length_replicate]) (by omega) (by simp [val])
 rw [cast0] at hr
 rw [Zay,Zay] at hv
 have hlt:=Zfa hd
 have hc0 : c' = 0:=by
  rcases Nat.eq_zero_or_pos c' with q | q
  ·exact q
  ·have : c' = 1:=by omega
   rw [this,Nat.mul_one,← hl] at hv; omega
 rw [hc0,Nat.mul_zero,Nat.add_zero] at hv
 have hv2 : val l' = a - b:=by omega
 have hsn:=ZbM H (n:=(dl a).length) (by omega)
 rw [← hl,List.take_length] at hsn
 obtain ⟨z',hz⟩:=ZbN J (z:=false) hd (by omega)
 rw [hl] at hsn
 refine ⟨z',?_⟩
 rw [Zab G T J.A.ZuB,← hv2]
 repeat (first | (simp (maxSteps:=9^7) only [seval,evB,Znn,hr,hsn,hz]) | (simp (disch:=omega) only [dsB]))
theorem Zsp (J : Al G T g) {z y : Bool} {a b : Nat} (ha : mayL (dl a) = true) (hb : mayL (dl b) = true) (hab : b≤a) : ∃ z',run G T 103 [D z (dl a),D y (dl b)] = some (.tup [D z' (dl (a - b)),.int .i64 0]):=by
 have la:=(ZaG.1 ha).1
 have lb:=(ZaG.1 hb).1
 have h1:=Zlb (G:=G) J (z:=z) (y:=y) (a:=dl a) (b:=dl b)
 rw [ha,hb,Bool.and_self] at h1
 have h2:=ZmM (G:=G) J (z:=z) (y:=y) (a:=a) (b:=b) (by omega) (by omega)
 have h3 : ¬ cmpN a b < 0:=by rw [ZcV]; omega
 obtain ⟨z',h4⟩:=ZuB J (z:=z) (y:=y) (a:=a) (b:=b) (by omega) hab
 refine ⟨z',?_⟩
 rw [Zab G T J.A.Zsp]
 repeat' (first|simp (maxSteps:=9^7) only [seval,exC,ZmR,h1,h2,h3,h4]|simp (maxSteps:=9^7) (disch:=first|with_reducible assumption|omega) only [dxB]|(simp only [kdB];split)|(simp only [kvB];split))
theorem Zuj (J : Al G T g) {z y : Bool} {a b : Nat} (ha : mayL (dl a) = true) (hb : mayL (dl b) = true) : run G T 104 [D z (dl a),D y (dl b)] = some (.tup [.int .i64 (cmpN a b),.int .i64 0]):=by
 have la:=(ZaG.1 ha).1
 have lb:=(ZaG.1 hb).1
 have h1:=Zlb (G:=G) J (z:=z) (y:=y) (a:=dl a) (b:=dl b)
 rw [ha,hb,Bool.and_self] at h1
 have h2:=ZmM (G:=G) J (z:=z) (y:=y) (a:=a) (b:=b) (by omega) (by omega)
 rw [Zab G T J.A.Zuj]
 repeat' (first|simp (maxSteps:=9^7) only [seval,exC,Znp,h1,h2]|simp (maxSteps:=9^7) (disch:=first|with_reducible assumption|omega) only [dxB]|(simp only [kdB];split)|(simp only [kvB];split))
theorem ZuE (J : Al G T g) {z y : Bool} {a b : Nat} (ha : mayL (dl a) = true) (hb : mayL (dl b) = true) (hab : (dl b).length≤(dl a).length) (hs : (dl (a + b)).length≤4096) : ∃ z',run G T 105 [D z (dl a),D y (dl b)] = some (.tup [D z' (dl (a + b)),.int .i64 0]):=by
 have la:=(ZaG.1 ha).1
 have lb:=(ZaG.1 hb).1
 have h1:=Zlb (G:=G) J (z:=z) (y:=y) (a:=dl a) (b:=dl b)
 rw [ha,hb,Bool.and_self] at h1
 have h2 : ¬ ((dl a).length : Int) < ((dl b).length : Int):=by omega
 obtain ⟨_,hr,e,h',l',c',rfl,H,hd,hl,hc,hv⟩:=Znj (G:=G) (T:=T) (z:=z) (y:=y) (b:=1) J (Zaq a) (Zaq b) (by omega) hab (dl a).length 0 (new ⟨[⟨[D z (dl a),D y (dl b)],false⟩],fz1 (AV.bool true) [0]⟩ (List.replicate ((dl a).length + 1) 0)) _ 0 (by omega) (Zbn (h:=⟨[⟨[D z (dl a),D y (dl b)],false⟩],fz1 (AV.bool true) [0]⟩) (fun _ h => absurd h List.not_mem_nil) _) (Zjf _) (by rw [List.length_replicate]) (by omega) (by simp [val])
 rw [cast0] at hr
 rw [Zay,Zay] at hv
 have hil : (dl a).length < l'.length:=by omega
 have hvs:=ZhX (v:=c') hil
 rw [hv,List.take_of_length_le (by rw [List.length_set]; omega)] at hvs
 have H2:=H.put (l'.set (dl a).length c')
 have hd2 : Dg (l'.set (dl a).length c'):=Zeb hd (by omega)
 have hl2 : (l'.set (dl a).length c').length = (dl a).length + 1:=by rw [List.length_set]; exact hl
 have hsn:=ZbM H2 (n:=(dl a).length + 1) (by omega)
 rw [← hl2,List.take_length] at hsn
 obtain ⟨z',hz⟩:=ZbN J (z:=false) hd2 (by omega)
 rw [hl2] at hsn
 rw [hvs] at hz
 have hbd:=Zlz J (z:=z') hs
 have e8 : ((dl a).length : Int) + 1 = (((dl a).length + 1 : Nat) : Int):=by omega
 refine ⟨z',?_⟩
 rw [Zab G T J.A.Zsi]
 repeat' (first|simp (maxSteps:=9^7) only [seval,exC,Zlt,h1,h2,e8,hr,hsn,hz,hbd ]|simp (maxSteps:=9^7) (disch:=first|with_reducible assumption|omega) only [dxB,Zcx H]|(simp only [kdB];split)|(simp only [kvB];split))
theorem Zsi (J : Al G T g) {z y : Bool} {a b : Nat} (ha : mayL (dl a) = true) (hb : mayL (dl b) = true) (hs : (dl (a + b)).length≤4096) : ∃ z',run G T 105 [D z (dl a),D y (dl b)] = some (.tup [D z' (dl (a + b)),.int .i64 0]):=by
 have la:=(ZaG.1 ha).1
 have lb:=(ZaG.1 hb).1
 by_cases hab : (dl b).length≤(dl a).length
 ·exact ZuE J ha hb hab hs
 have h1:=Zlb (G:=G) J (z:=z) (y:=y) (a:=dl a) (b:=dl b)
 rw [ha,hb,Bool.and_self] at h1
 have h2 : ((dl a).length : Int) < ((dl b).length : Int):=by omega
 obtain ⟨_,hr,e,h',l',c',rfl,H,hd,hl,hc,hv⟩:=Znj (G:=G) (T:=T) (z:=y) (y:=z) (b:=1) J (Zaq b) (Zaq a) (by omega) (by omega) (dl b).length 0 (new ⟨[⟨[D z (dl a),D y (dl b)],false⟩],fz1 (AV.bool true) [0]⟩ (List.replicate ((dl b).length + 1) 0)) _ 0 (by omega) (Zbn (h:=⟨[⟨[D z (dl a),D y (dl b)],false⟩],fz1 (AV.bool true) [0]⟩) (fun _ h => absurd h List.not_mem_nil) _) (Zjf _) (by rw [List.length_replicate]) (by omega) (by simp [val])
 rw [cast0] at hr
 rw [Zay,Zay,Nat.add_comm b a] at hv
 have hil : (dl b).length < l'.length:=by omega
 have hvs:=ZhX (v:=c') hil
 rw [hv,List.take_of_length_le (by rw [List.length_set]; omega)] at hvs
 have H2:=H.put (l'.set (dl b).length c')
 have hd2 : Dg (l'.set (dl b).length c'):=Zeb hd (by omega)
 have hl2 : (l'.set (dl b).length c').length = (dl b).length + 1:=by rw [List.length_set]; exact hl
 have hsn:=ZbM H2 (n:=(dl b).length + 1) (by omega)
 rw [← hl2,List.take_length] at hsn
 obtain ⟨z',hz⟩:=ZbN J (z:=false) hd2 (by omega)
 rw [hl2] at hsn
 rw [hvs] at hz
 have hbd:=Zlz J (z:=z') hs
 have e8 : ((dl b).length : Int) + 1 = (((dl b).length + 1 : Nat) : Int):=by omega
 refine ⟨z',?_⟩
 rw [Zab G T J.A.Zsi]
 repeat' (first|simp (maxSteps:=9^7) only [seval,exC,Zlt,h1,h2,e8,hr,hsn,hz,hbd ]|simp (maxSteps:=9^7) (disch:=first|with_reducible assumption|omega) only [dxB,Zcx H]|(simp only [kdB];split)|(simp only [kvB];split))
end Go.Cv
