/-
 A part of the proof of the statements of this seat (texts that the law's own text leans on): no condition.
-/
import Derived.Test.YtddmoldiopnifaaGreatDoorM16
import Derived.Test.YtddmoldiopnifaaGreatDoorM15
set_option linter.unusedVariables false
set_option linter.unusedSimpArgs false
namespace Go.Cv
theorem ZGI {F : Fm} {w : Nat} (hf : F.fin w) (h0 : (F.vl w).m≠0) : (F.vl w).e + blen (F.vl w).m = F.low + bl (F.X w):=by
 unfold Fm.X
 rw [Zzs,Zap h0]
 have:=Znx (Zbi hf) h0
 omega
theorem X_m0 {F : Fm} {w : Nat} (h0 : F.X w≠0) : (F.vl w).m≠0:=fun q => h0 (ZaY q _)
theorem ZCC {F : Fm} {w : Nat} : F.X w = (if (F.vl w).n then -1 else 1) * (((F.vl w).m * 2 ^ ((F.vl w).e - F.low).toNat : Nat) : Int):=rfl
theorem Zyv (n : Bool) (x : Int) : ((if n then -1 else 1) * x).natAbs = x.natAbs:=by cases n <;> simp
theorem ZGr (p q : Bool) (x y : Int) : (if (p != q) then (-1 : Int) else 1) * x * ((if q then -1 else 1) * y) = (if p then -1 else 1) * (x * y):=by
 cases p <;> cases q <;> simp [Int.neg_mul,Int.mul_neg]
theorem ZGj {A b N Q : Nat} (ha : A≠0) (hb : b≠0) (hQ : Q = A * 2 ^ N / b) (h0 : Q≠0) : blen A + N≤blen Q + blen b∧blen Q + blen b≤blen A + N + 1:=by
 have hdm:=Nat.div_add_mod (A * 2 ^ N) b
 have hlt:=Nat.mod_lt (A * 2 ^ N) (Nat.pos_of_ne_zero hb)
 rw [← hQ] at hdm
 have e:=Zap ha N
 have q1:=ZaH Q
 have q2:=ZaH b
 have q3 : 2 ^ (blen Q - 1)≤Q:=ZaA.1 (by have:=ZaS h0; omega)
 have q4 : 2 ^ (blen b - 1)≤b:=ZaA.1 (by have:=ZaS hb; omega)
 have p1:=ZaS h0
 have p2:=ZaS hb
 refine ⟨?_,?_⟩
 ·rw [← e]
  refine Zae.2 ?_
  have h1 : (Q + 1) * b≤2 ^ blen Q * 2 ^ blen b:=Nat.mul_le_mul q1 (Nat.le_of_lt q2)
  rw [← Nat.pow_add,Nat.add_mul,Nat.one_mul,Nat.mul_comm Q b] at h1
  omega
 ·have h1 : 2 ^ (blen Q - 1) * 2 ^ (blen b - 1)≤Q * b:=Nat.mul_le_mul q3 q4
  rw [← Nat.pow_add,Nat.mul_comm Q b] at h1
  have h2 : blen Q - 1 + (blen b - 1) < blen (A * 2 ^ N):=ZaA.2 (by omega)
  omega
theorem Zzy {U m b W A Q : Nat} (h1 : U * m≤U * (Q * W) + Q * W) (h2 : U * (Q * W)≤U * m + Q * W) (q1 : Q * b≤A) (q2 : A≤Q * b + b) (hQ : 1024 * U≤Q) :
  1024 * U * (m * b)≤1024 * U * (A * W) + 1025 * (A * W)∧1024 * U * (A * W)≤1024 * U * (m * b) + 1025 * (A * W):=by
 have a1:=Nat.mul_le_mul_right b h1
 have a2:=Nat.mul_le_mul_right b h2
 have c1 : Q * b * W≤A * W:=Nat.mul_le_mul_right W q1
 have c2 : A * W≤(Q * b + b) * W:=Nat.mul_le_mul_right W q2
 have c3 : 1024 * U * (b * W)≤Q * (b * W):=Nat.mul_le_mul_right _ hQ
 have c4 : U * (Q * b * W)≤U * (A * W):=Nat.mul_le_mul_left U c1
 have c5 : U * (A * W)≤U * ((Q * b + b) * W):=Nat.mul_le_mul_left U c2
 have e1 : U * m * b = U * (m * b):=Nat.mul_assoc ..
 have e2 : (U * (Q * W) + Q * W) * b = U * (Q * b * W) + Q * b * W:=by
  rw [Nat.add_mul,Nat.mul_assoc U,Nat.mul_right_comm Q W b]
 have e3 : U * (Q * W) * b = U * (Q * b * W):=by rw [Nat.mul_assoc U,Nat.mul_right_comm Q W b]
 have e4 : (U * m + Q * W) * b = U * (m * b) + Q * b * W:=by rw [Nat.add_mul,Nat.mul_assoc U,Nat.mul_right_comm Q W b]
 have e5 : U * ((Q * b + b) * W) = U * (Q * b * W) + U * (b * W):=by rw [Nat.add_mul,Nat.mul_add]
 have e6 : Q * (b * W) = Q * b * W:=(Nat.mul_assoc ..).symm
 rw [e1,e2] at a1
 rw [e3,e4] at a2
 rw [e5] at c5
 rw [e6,Nat.mul_assoc] at c3
 rw [Nat.mul_assoc,Nat.mul_assoc]
 omega
theorem ZEP (F : Fm) {a b ka kb ja jb : Nat} (ha : Fb F a ka) (hb : Fb F b kb) (la : 2 ^ ja≤(F.X a).natAbs) (lb : 2 ^ jb≤(F.X b).natAbs) (h1 : F.low + F.fr + 1≤(ja : Int) + 1 - kb) (h2 : (ka : Int) - jb < F.wide) :
  (divW2 F 1 a b).1 < 2 * F.sg∧F.fin (divW2 F 1 a b).1∧1024 * F1 F * (F.X (divW2 F 1 a b).1 * F.X b - F.X a * (2 ^ F.sh : Nat)).natAbs≤1025 * (F.X a * (2 ^ F.sh : Nat)).natAbs:=by
 have hF:=ZaM F
 have a0 : F.X a≠0:=fun q => by rw [q] at la; have:=Nat.two_pow_pos ja; simp at la
 have b0 : F.X b≠0:=fun q => by rw [q] at lb; have:=Nat.two_pow_pos jb; simp at lb
 have am:=X_m0 a0
 have bm:=X_m0 b0
 have ta:=ZGI ha.fin am
 have tb:=ZGI hb.fin bm
 have ae:=Znx (Zbi ha.fin) am
 have be:=Znx (Zbi hb.fin) bm
 have ua:=ZCK ha.hi
 have ub:=ZCK hb.hi
 have va:=ZCJ la
 have vb:=ZCJ lb
 have ca : F.cls a≠1:=fun q => a0 (ZiX ha.lt q)
 have cb : F.cls b≠1:=fun q => b0 (ZiX hb.lt q)
 have fa:=ZaE.1 ha.fin
 have fb:=ZaE.1 hb.fin
 have e : divW2 F 1 a b = quoW F 1 (F.vl a) (F.vl b):=by
  unfold divW2 divP
  rw [if_neg (by omega),if_neg (by omega),if_neg (by omega),if_neg (by omega),if_neg (by omega)]
 rw [e]
 have hqb:=ZlF (k:=64) am bm
 unfold quoW
 obtain ⟨N,hN⟩ : ∃ N,N = quoN 64 (F.vl a).m (F.vl b).m:=⟨_,rfl⟩
 rw [← hN] at hqb ⊢
 obtain ⟨Q,hQ⟩ : ∃ Q,Q = (F.vl a).m * 2 ^ N / (F.vl b).m:=⟨_,rfl⟩
 rw [← hQ] at hqb ⊢
 have hQ0 : Q≠0:=fun q => by rw [q] at hqb; exact absurd hqb (by decide)
 obtain ⟨g1,g2⟩:=ZGj am bm hQ hQ0
 have hdm:=Nat.div_add_mod ((F.vl a).m * 2 ^ N) (F.vl b).m
 have hlt:=Nat.mod_lt ((F.vl a).m * 2 ^ N) (Nat.pos_of_ne_zero bm)
 rw [← hQ] at hdm
 obtain ⟨s1,s2,s3⟩:=Zys F ((F.vl a).n != (F.vl b).n) (Q:=Q) (!decide ((F.vl a).m * 2 ^ N % (F.vl b).m = 0)) ((F.vl a).e - (F.vl b).e - (N : Nat)) (by omega) (by omega) (by omega)
 generalize (sW F 1 ((F.vl a).n != (F.vl b).n) Q (!decide ((F.vl a).m * 2 ^ N % (F.vl b).m = 0)) ((F.vl a).e - (F.vl b).e - (N : Nat))).1 = w at *
 refine ⟨s1,s2,?_⟩
 obtain ⟨E,hE⟩ : ∃ E,E = (F.vl a).e - (F.vl b).e - (N : Int):=⟨_,rfl⟩
 rw [← hE] at s3
 obtain ⟨L,hL1,hL2,hL3⟩ : ∃ L,L≤F.low∧L≤E∧L≤0:=⟨min F.low E,by omega,by omega,by omega⟩
 obtain ⟨_,m,i1,i2,i3⟩:=s3 L hL1 hL2
 have hsc:=ZiG (L':=L) (Zbi s2) hL1
 have hm : 1024 * F1 F≤Q:=by
  have q : 2 ^ 64≤Q:=ZaA.1 hqb
  have : 1024 * F1 F≤2 ^ 64:=by cases F <;> decide
  omega
 obtain ⟨k1,k2⟩:=Zzy (b:=(F.vl b).m) (A:=(F.vl a).m * 2 ^ N) i2 i3 (by rw [Nat.mul_comm]; omega) (by rw [Nat.mul_comm Q]; omega) hm
 -- over a finer unit
 have hw : F.X w * ((2 ^ (F.low - L).toNat : Nat) : Int) = (if ((F.vl a).n != (F.vl b).n) then -1 else 1) * (m : Int):=by rw [← i1,hsc]; rfl
 have hT:=Nat.two_pow_pos (F.low - L).toNat
 generalize hTe : (2 ^ (F.low - L).toNat : Nat) = Tt at *
 have hV:=Nat.two_pow_pos ((F.vl b).e - F.low).toNat
 have hAe : (F.vl a).m * 2 ^ ((F.vl a).e - F.low).toNat * 2 ^ F.sh * Tt = (F.vl a).m * 2 ^ N * 2 ^ (E - L).toNat * 2 ^ ((F.vl b).e - F.low).toNat:=by
  rw [← hTe,Nat.mul_assoc,Nat.mul_assoc,← Nat.pow_add,← Nat.pow_add,Nat.mul_assoc,Nat.mul_assoc,← Nat.pow_add,← Nat.pow_add]
  congr 2
  have : (F.sh : Int) = -F.low:=by unfold Fm.sh; omega
  omega
 have hA1 : (F.X a * ((2 ^ F.sh : Nat) : Int)) * (Tt : Int) = (if (F.vl a).n then -1 else 1) * (((F.vl a).m * 2 ^ N * 2 ^ (E - L).toNat * 2 ^ ((F.vl b).e - F.low).toNat : Nat) : Int):=by
  rw [← hAe,ZCC,Int.mul_assoc,Int.mul_assoc]
  congr 1
  simp only [Int.natCast_mul,Int.mul_assoc]
 have hB1 : F.X w * F.X b * (Tt : Int) = (if (F.vl a).n then -1 else 1) * ((m * (F.vl b).m * 2 ^ ((F.vl b).e - F.low).toNat : Nat) : Int):=by
  rw [Int.mul_right_comm,hw,ZCC]
  rw [ZGr]
  congr 1
  simp only [Int.natCast_mul,Int.mul_assoc]
 have hfin : 1024 * F1 F * ((F.X w * F.X b - F.X a * ((2 ^ F.sh : Nat) : Int)).natAbs * Tt)≤1025 * ((F.X a * ((2 ^ F.sh : Nat) : Int)).natAbs * Tt):=by
  have n1 : (F.X w * F.X b - F.X a * ((2 ^ F.sh : Nat) : Int)).natAbs * Tt = ((F.X w * F.X b - F.X a * ((2 ^ F.sh : Nat) : Int)) * (Tt : Int)).natAbs:=by rw [Int.natAbs_mul _ (Tt : Int),Int.natAbs_natCast Tt]
  have n2 : (F.X a * ((2 ^ F.sh : Nat) : Int)).natAbs * Tt = ((F.X a * ((2 ^ F.sh : Nat) : Int)) * (Tt : Int)).natAbs:=by rw [Int.natAbs_mul _ (Tt : Int),Int.natAbs_natCast Tt]
  rw [n1,n2,Int.sub_mul,hA1,hB1,← Int.mul_sub,Zyv,Zyv,Int.natAbs_natCast]
  have d1:=Nat.mul_le_mul_right (2 ^ ((F.vl b).e - F.low).toNat) k1
  have d2:=Nat.mul_le_mul_right (2 ^ ((F.vl b).e - F.low).toNat) k2
  generalize 2 ^ ((F.vl b).e - F.low).toNat = V at *
  rw [Nat.add_mul,Nat.mul_assoc (1024 * F1 F),Nat.mul_assoc (1024 * F1 F),Nat.mul_assoc 1025] at d1 d2
  generalize m * (F.vl b).m * V = x at *
  generalize (F.vl a).m * 2 ^ N * 2 ^ (E - L).toNat * V = y at *
  have hxy : ((x : Int) - (y : Int)).natAbs = (x - y) + (y - x):=by omega
  rw [hxy,Nat.mul_add,Nat.mul_sub,Nat.mul_sub]
  omega
 rw [← Nat.mul_assoc,← Nat.mul_assoc] at hfin
 exact Nat.le_of_mul_le_mul_right hfin hT
end Go.Cv
namespace Go.Cv
variable {G : Nat→Option (List AV)} {T : Tbl} {g : Nat}
theorem fin5 {F : Fm} {w : Nat} (h : F.fin w) : F.cls w≠5:=(Zgq h).1
theorem ZiY {F : Fm} {a b : Nat} (ha : a < 2 * F.sg) (hb : b < 2 * F.sg) (h : F.fin (mulW2 F 1 a b).1) : evFl .mul (fk F) (flA F a) (flA F b) = some (flA F (mulW2 F 1 a b).1):=by
 unfold flA; rw [ZFj,ZFS F ha hb,Zcp (fin5 h)]
theorem Ztu {F : Fm} {a b : Nat} (ha : a < 2 * F.sg) (hb : b < 2 * F.sg) (h : F.fin (addW F 1 a b).1) : evFl .add (fk F) (flA F a) (flA F b) = some (flA F (addW F 1 a b).1):=by
 unfold flA; rw [ZFi,ZEs F ha hb,Zcp (fin5 h)]
theorem ZAU {F : Fm} {a b : Nat} (ha : a < 2 * F.sg) (hb : b < 2 * F.sg) (h : F.fin (subW F 1 a b).1) : evFl .sub (fk F) (flA F a) (flA F b) = some (flA F (subW F 1 a b).1):=by
 unfold flA; rw [ZFl,ZGG F ha hb,Zcp (fin5 h)]
theorem ZAT {F : Fm} {a b : Nat} (ha : a < 2 * F.sg) (hb : b < 2 * F.sg) (h : F.fin (divW2 F 1 a b).1) : evFl .quo (fk F) (flA F a) (flA F b) = some (flA F (divW2 F 1 a b).1):=by
 unfold flA; rw [ZFk,ZEQ F ha hb,Zcp (fin5 h)]
theorem Zvp (hM : HasM g T) (F : Fm) {a b c d p q r s x y : Nat}
  (h1 : evFl .mul (fk F) (flA F a) (flA F c) = some (flA F p)) (h2 : evFl .mul (fk F) (flA F b) (flA F d) = some (flA F q)) (h3 : evFl .sub (fk F) (flA F p) (flA F q) = some (flA F x))
  (h4 : evFl .mul (fk F) (flA F a) (flA F d) = some (flA F r)) (h5 : evFl .mul (fk F) (flA F b) (flA F c) = some (flA F s)) (h6 : evFl .add (fk F) (flA F r) (flA F s) = some (flA F y)) :
  run G T (fsel F 361 362) [flA F a,flA F b,flA F c,flA F d] = some (.tup [flA F x,flA F y]):=by
 cases F
 ·simp only [fsel,flA,fk] at *
  rw [Zac G T hM.fast_mul_float32]
  repeat' (first|simp (maxSteps:=9^7) only [seval,exC,Zcn,fcB,h1,h2,h3,h4,h5,h6]|simp (maxSteps:=9^7) (disch:=first|with_reducible assumption|omega) only [dxB]|(simp only [kdB];split)|(simp only [kvB];split))
 ·simp only [fsel,flA,fk] at *
  rw [Zac G T hM.fast_mul_float64]
  repeat' (first|simp (maxSteps:=9^7) only [seval,exC,Zco,fcB,h1,h2,h3,h4,h5,h6]|simp (maxSteps:=9^7) (disch:=first|with_reducible assumption|omega) only [dxB]|(simp only [kdB];split)|(simp only [kvB];split))
theorem Zvo (hM : HasM g T) (F : Fm) {a b c d p q n r s t r' s' t' x y : Nat}
  (h1 : evFl .mul (fk F) (flA F c) (flA F c) = some (flA F p)) (h2 : evFl .mul (fk F) (flA F d) (flA F d) = some (flA F q)) (h3 : evFl .add (fk F) (flA F p) (flA F q) = some (flA F n))
  (h4 : evFl .mul (fk F) (flA F a) (flA F c) = some (flA F r)) (h5 : evFl .mul (fk F) (flA F b) (flA F d) = some (flA F s)) (h6 : evFl .add (fk F) (flA F r) (flA F s) = some (flA F t))
  (h7 : evFl .mul (fk F) (flA F b) (flA F c) = some (flA F r')) (h8 : evFl .mul (fk F) (flA F a) (flA F d) = some (flA F s')) (h9 : evFl .sub (fk F) (flA F r') (flA F s') = some (flA F t'))
  (h10 : evFl .quo (fk F) (flA F t) (flA F n) = some (flA F x)) (h11 : evFl .quo (fk F) (flA F t') (flA F n) = some (flA F y)) :
  run G T (fsel F 366 367) [flA F a,flA F b,flA F c,flA F d] = some (.tup [flA F x,flA F y]):=by
 cases F
 ·simp only [fsel,flA,fk] at *
  rw [Zac G T hM.fast_div_float32]
  repeat' (first|simp (maxSteps:=9^7) only [seval,exC,Zcl,fcB,h1,h2,h3,h4,h5,h6,h7,h8,h9,h10,h11]|simp (maxSteps:=9^7) (disch:=first|with_reducible assumption|omega) only [dxB]|(simp only [kdB];split)|(simp only [kvB];split))
 ·simp only [fsel,flA,fk] at *
  rw [Zac G T hM.fast_div_float64]
  repeat' (first|simp (maxSteps:=9^7) only [seval,exC,Zcm,fcB,h1,h2,h3,h4,h5,h6,h7,h8,h9,h10,h11]|simp (maxSteps:=9^7) (disch:=first|with_reducible assumption|omega) only [dxB]|(simp only [kdB];split)|(simp only [kvB];split))
def fmX (F : Fm) (a b c d : Nat) : Nat:=(subW F 1 (mulW2 F 1 a c).1 (mulW2 F 1 b d).1).1
def fmY (F : Fm) (a b c d : Nat) : Nat:=(addW F 1 (mulW2 F 1 a d).1 (mulW2 F 1 b c).1).1
def fdN (F : Fm) (c d : Nat) : Nat:=(addW F 1 (mulW2 F 1 c c).1 (mulW2 F 1 d d).1).1
def fdT (F : Fm) (a b c d : Nat) : Nat:=(addW F 1 (mulW2 F 1 a c).1 (mulW2 F 1 b d).1).1
def fdS (F : Fm) (a b c d : Nat) : Nat:=(subW F 1 (mulW2 F 1 b c).1 (mulW2 F 1 a d).1).1
def fdX (F : Fm) (a b c d : Nat) : Nat:=(divW2 F 1 (fdT F a b c d) (fdN F c d)).1
def fdY (F : Fm) (a b c d : Nat) : Nat:=(divW2 F 1 (fdS F a b c d) (fdN F c d)).1
theorem ZsK {F : Fm} {p q : Nat} (hp : Fb F p F.ph) (hq : Fb F q F.ph) (dp : P2 F.pj ∣ F.X p) (dq : P2 F.pj ∣ F.X q) :
  Fb F (addW F 1 p q).1 (F.ph + 2)∧Rl (F1 F) (F.X p + F.X q) (F.X (addW F 1 p q).1)∧P2 F.pj ∣ F.X (addW F 1 p q).1:=by
 obtain ⟨_,_,_,_,n5,_⟩:=ZkU F
 obtain ⟨h1,h2⟩:=ZEr F hp hq (by omega)
 refine ⟨h1,h2,?_⟩
 have hv : (addW F 1 p q).2≠20:=by
  unfold addW
  rw [ZjU F 1 (ZaE.1 hp.fin) (ZaE.1 hq.fin)]
  by_cases z : F.cls p = 1∧F.cls q = 1∧F.ng p = F.ng q
  ·rw [if_pos z]; exact (by decide : (0 : Nat)≠20)
  ·rw [if_neg z]
   obtain ⟨i1,i2⟩:=Zgr (Zbi hp.fin) (Zbi hq.fin)
   refine Zkt F i2 (k:=F.ph + 1) (by rw [i1]; have:=hp.hi; have:=hq.hi; unfold Fm.X at *; rw [Nat.pow_succ]; omega) (by omega)
 exact (ZvX F hp.lt hq.lt hp.fin hq.fin hv).2.2.dvd (Int.dvd_add dp dq)
theorem Zzb {F : Fm} {p q : Nat} (hp : Fb F p F.ph) (hq : Fb F q F.ph) (dp : P2 F.pj ∣ F.X p) (dq : P2 F.pj ∣ F.X q) :
  Fb F (subW F 1 p q).1 (F.ph + 2)∧Rl (F1 F) (F.X p - F.X q) (F.X (subW F 1 p q).1)∧P2 F.pj ∣ F.X (subW F 1 p q).1:=by
 obtain ⟨_,_,_,_,n5,_⟩:=ZkU F
 obtain ⟨h1,h2⟩:=ZGF F hp hq (by omega)
 refine ⟨h1,h2,?_⟩
 have hv : (subW F 1 p q).2≠20:=by
  unfold subW
  rw [ZjU F 1 (ZaE.1 hp.fin) (ZaE.1 hq.fin)]
  by_cases z : F.cls p = 1∧F.cls q = 1∧F.ng p = !F.ng q
  ·rw [if_pos z]; exact (by decide : (0 : Nat)≠20)
  ·rw [if_neg z]
   obtain ⟨i1,i2⟩:=ZnN (Zbi hp.fin) (Zbi hq.fin)
   refine Zkt F i2 (k:=F.ph + 1) (by rw [show addD (F.vl p) (negD (F.vl q)) = subD (F.vl p) (F.vl q) from rfl,i1]; have:=hp.hi; have:=hq.hi; unfold Fm.X at *; rw [Nat.pow_succ]; omega) (by omega)
 exact (ZyL F hp.lt hq.lt hp.fin hq.fin hv).2.2.dvd (Int.dvd_sub dp dq)
theorem ZCs {F : Fm} {c : Nat} (hc : c < 2 * F.sg) (wc : inW F c) : 2 ^ F.pl≤2 * F.X (mulW2 F 1 c c).1:=by
 obtain ⟨h1,h2,h3,_⟩:=ZcA hc hc wc wc
 have hs : 0≤F.X c * F.X c:=ZkT _
 have hp:=Nat.two_pow_pos F.sh
 have hU:=ZrU F
 have hq : 2 ^ F.pl = ((2 ^ F.pl : Nat) : Int):=by rw [Int.natCast_pow]; rfl
 rw [hq]
 rcases Int.lt_or_le (F.X (mulW2 F 1 c c).1) 0 with q | q
 ·exfalso
  unfold Rl at h2
  have hneg : F.X (mulW2 F 1 c c).1 * ((2 ^ F.sh : Nat) : Int) < 0:=Int.mul_neg_of_neg_of_pos q (by omega)
  generalize F.X (mulW2 F 1 c c).1 * ((2 ^ F.sh : Nat) : Int) = r at *
  generalize F.X c * F.X c = n at *
  have h4 : 2 * (n - r).natAbs≤F1 F * (n - r).natAbs:=Nat.mul_le_mul_right _ (by omega)
  omega
 ·omega
theorem Zqx {F : Fm} {c d : Nat} (hc : c < 2 * F.sg) (hd : d < 2 * F.sg) (wc : inW F c) (wd : inW F d) :
  Fb F (fdN F c d) (F.ph + 2)∧Rl (F1 F) (F.X (mulW2 F 1 c c).1 + F.X (mulW2 F 1 d d).1) (F.X (fdN F c d))∧2 ^ (F.pl - 2)≤(F.X (fdN F c d)).natAbs∧0 < F.X (fdN F c d):=by
 obtain ⟨p1,_,_,p4⟩:=ZcA hc hc wc wc
 obtain ⟨q1,_,_,q4⟩:=ZcA hd hd wd wd
 obtain ⟨h1,h2,h3⟩:=ZsK p1 q1 p4 q4
 have s1:=ZCs hc wc
 have s2:=ZCs hd wd
 have hU:=ZrU F
 have hq : 2 ^ F.pl = ((2 ^ F.pl : Nat) : Int):=by rw [Int.natCast_pow]; rfl
 rw [hq] at s1 s2
 have hpl : F.pl = (F.pl - 2) + 2:=by have:=ZkU F; omega
 have hp2 : 2 ^ F.pl = 4 * 2 ^ (F.pl - 2):=by rw [hpl,Nat.pow_add,Nat.add_sub_cancel]; omega
 have hpos:=Nat.two_pow_pos (F.pl - 2)
 have h4:=ZEn (by omega) h2
 refine ⟨h1,h2,?_,?_⟩
 ·show _≤(F.X (addW F 1 (mulW2 F 1 c c).1 (mulW2 F 1 d d).1).1).natAbs
  omega
 ·show 0 < F.X (addW F 1 (mulW2 F 1 c c).1 (mulW2 F 1 d d).1).1
  unfold Rl at h2
  have h5 : 2 * (F.X (mulW2 F 1 c c).1 + F.X (mulW2 F 1 d d).1 - F.X (addW F 1 (mulW2 F 1 c c).1 (mulW2 F 1 d d).1).1).natAbs≤F1 F * (F.X (mulW2 F 1 c c).1 + F.X (mulW2 F 1 d d).1 - F.X (addW F 1 (mulW2 F 1 c c).1 (mulW2 F 1 d d).1).1).natAbs:=Nat.mul_le_mul_right _ (by omega)
  omega
theorem ZEp {F : Fm} {w : Nat} (hw : w < 2 * F.sg) (hf : F.fin w) (h : F.X w = 0) : F.cls w = 1:=by
 refine (Zke hw hf).2 ?_
 rcases Nat.eq_zero_or_pos (F.vl w).m with q | q
 ·exact q
 ·exfalso
  have:=Nat.mul_pos q (Nat.two_pow_pos ((F.vl w).e - F.low).toNat)
  have h2:=congrArg Int.natAbs h
  rw [ZCC,Zyv,Int.natAbs_natCast,Int.natAbs_zero] at h2
  omega
theorem Zza {F : Fm} {t n : Nat} (ht : Fb F t (F.ph + 2)) (dt : P2 F.pj ∣ F.X t) (hn : Fb F n (F.ph + 2)) (ln : 2 ^ (F.pl - 2)≤(F.X n).natAbs) :
  (divW2 F 1 t n).1 < 2 * F.sg∧F.fin (divW2 F 1 t n).1∧1024 * F1 F * (F.X (divW2 F 1 t n).1 * F.X n - F.X t * (2 ^ F.sh : Nat)).natAbs≤1025 * (F.X t * (2 ^ F.sh : Nat)).natAbs:=by
 obtain ⟨_,_,_,_,_,n6,n7,_⟩:=ZkU F
 have n0 : F.X n≠0:=fun q => by rw [q] at ln; have:=Nat.two_pow_pos (F.pl - 2); simp at ln
 by_cases h0 : F.X t = 0
 ·have c1:=ZEp ht.lt ht.fin h0
  have c2 : F.cls n≠1:=fun q => n0 (ZiX hn.lt q)
  have fn:=ZaE.1 hn.fin
  have e : divW2 F 1 t n = (F.sgn (F.ng t != F.ng n),0):=by
   unfold divW2 divP
   rw [if_neg (by omega),if_neg (by omega),if_neg (by omega),if_neg (by omega),if_pos (Or.inl c1)]
  rw [e]
  obtain ⟨g1,g2,_⟩:=ZjP F (F.ng t != F.ng n)
  refine ⟨g1,g2,?_⟩
  simp only
  rw [ZvU,h0,Int.zero_mul,Int.zero_mul]; simp
 ·exact ZEP F ht hn (ZEU dt h0) ln n6 n7
theorem ZBf {M Q : Nat} (h1 : Q * Q≤M) (h2 : M < (Q + 1) * (Q + 1)) (hM : M≠0) (h0 : Q≠0) : blen M≤2 * blen Q∧2 * blen Q≤blen M + 1:=by
 have q1:=ZaH Q
 have q3 : 2 ^ (blen Q - 1)≤Q:=ZaA.1 (by have:=ZaS h0; omega)
 have p1:=ZaS h0
 refine ⟨?_,?_⟩
 ·refine Zae.2 ?_
  have h3 : (Q + 1) * (Q + 1)≤2 ^ blen Q * 2 ^ blen Q:=Nat.mul_le_mul q1 q1
  rw [← Nat.pow_add,show blen Q + blen Q = 2 * blen Q by omega] at h3
  omega
 ·have h3 : 2 ^ (blen Q - 1) * 2 ^ (blen Q - 1)≤Q * Q:=Nat.mul_le_mul q3 q3
  rw [← Nat.pow_add] at h3
  have h4 : blen Q - 1 + (blen Q - 1) < blen M:=ZaA.2 (by omega)
  omega
theorem Zym {U m W M Q : Nat} (hU : 2≤U) (h1 : U * m≤U * (Q * W) + Q * W) (h2 : U * (Q * W)≤U * m + Q * W) (q1 : Q * Q≤M) (q2 : M < (Q + 1) * (Q + 1)) (hQ : 1024 * U≤Q) :
  (1024 * U * m) * (1024 * U * m)≤(1024 * U + 1025) * (1024 * U + 1025) * (M * (W * W))∧(1024 * U - 1025) * (1024 * U - 1025) * (M * (W * W))≤(1024 * U * m) * (1024 * U * m):=by
 refine ⟨?_,?_⟩
 ·have a1 : 1024 * U * m≤(1024 * U + 1025) * (Q * W):=by
   rw [Nat.add_mul,Nat.mul_assoc,Nat.mul_assoc]
   omega
  have a2:=Nat.mul_le_mul a1 a1
  have e1 : (1024 * U + 1025) * (Q * W) * ((1024 * U + 1025) * (Q * W)) = (1024 * U + 1025) * (1024 * U + 1025) * (Q * Q * (W * W)):=by
   simp only [Nat.mul_assoc,Nat.mul_left_comm,Nat.mul_comm]
  rw [e1] at a2
  exact Nat.le_trans a2 (Nat.mul_le_mul_left _ (Nat.mul_le_mul_right _ q1))
 ·have a1 : (1024 * U - 1025) * ((Q + 1) * W)≤1024 * U * m:=by
   rw [← Nat.mul_assoc,Nat.sub_mul,Nat.mul_add,Nat.mul_add,Nat.mul_one,Nat.mul_one]
   have b1 : 1024 * U * Q + 1024 * U - (1025 * Q + 1025)≤1024 * U * Q - 1024 * Q:=by
    have : 1025 * Q≤1024 * U * Q:=Nat.mul_le_mul_right _ (by omega)
    omega
   have b2:=Nat.mul_le_mul_right W b1
   rw [Nat.sub_mul (1024 * U * Q) (1024 * Q),Nat.mul_assoc (1024 * U) Q W,Nat.mul_assoc 1024 Q W,Nat.mul_assoc 1024 U (Q * W)] at b2
   rw [Nat.mul_assoc 1024 U m]
   omega
  have a2:=Nat.mul_le_mul a1 a1
  have e1 : (1024 * U - 1025) * ((Q + 1) * W) * ((1024 * U - 1025) * ((Q + 1) * W)) = (1024 * U - 1025) * (1024 * U - 1025) * ((Q + 1) * (Q + 1) * (W * W)):=by
   simp only [Nat.mul_assoc,Nat.mul_left_comm,Nat.mul_comm]
  rw [e1] at a2
  exact Nat.le_trans (Nat.mul_le_mul_left _ (Nat.mul_le_mul_right _ (Nat.le_of_lt q2))) a2
theorem ZGo (F : Fm) {d : Dy} (h0 : d.m≠0) (h1 : F.low + F.low + 2 * F.fr + 2≤d.e + blen d.m) (h2 : d.e + blen d.m + 1 < 2 * F.wide) :
  (rootW F 1 d).1 < 2 * F.sg∧F.fin (rootW F 1 d).1∧∀ L,L≤F.low→2 * L≤d.e - 200→LoE (F.vl (rootW F 1 d).1) L∧∃ m : Nat,iv (F.vl (rootW F 1 d).1) L = (m : Int) ∧
   (1024 * F1 F * m) * (1024 * F1 F * m)≤(1024 * F1 F + 1025) * (1024 * F1 F + 1025) * (d.m * 2 ^ (d.e - 2 * L).toNat)∧(1024 * F1 F - 1025) * (1024 * F1 F - 1025) * (d.m * 2 ^ (d.e - 2 * L).toNat)≤(1024 * F1 F * m) * (1024 * F1 F * m):=by
 have hF:=ZaM F
 have hP : rootP d.e = 130 + (d.e % 2).toNat:=rfl
 obtain ⟨P,hPe⟩ : ∃ P,P = rootP d.e:=⟨_,rfl⟩
 obtain ⟨M,hM⟩ : ∃ M,M = d.m * 2 ^ P:=⟨_,rfl⟩
 obtain ⟨r1,r2⟩:=Zls M
 have hM0 : M≠0:=by rw [hM]; exact Nat.mul_ne_zero h0 (Nat.pos_iff_ne_zero.1 (Nat.two_pow_pos _))
 have hbM : blen M = blen d.m + P:=by rw [hM]; exact Zap h0 P
 have hb0:=ZaS h0
 have hQ0 : isq M≠0:=fun q => by
  rw [q] at r2
  have : M = 0:=by omega
  exact hM0 this
 obtain ⟨b1,b2⟩:=ZBf r1 r2 hM0 hQ0
 unfold rootW
 rw [← hPe,← hM]
 obtain ⟨E,hE⟩ : ∃ E,E = (d.e - (P : Nat)) / 2:=⟨_,rfl⟩
 rw [← hE]
 have hE2 : 2 * E = d.e - P:=by omega
 obtain ⟨s1,s2,s3⟩:=Zys F false (Q:=isq M) (!decide (isq M * isq M = M)) E (by omega) (by omega) (by omega)
 generalize (sW F 1 false (isq M) (!decide (isq M * isq M = M)) E).1 = w at *
 refine ⟨s1,s2,fun L l1 l2 => ?_⟩
 obtain ⟨g1,m,g2,g3,g4⟩:=s3 L l1 (by omega)
 have hQ : 1024 * F1 F≤isq M:=by
  have q : 2 ^ 64≤isq M:=ZaA.1 (by omega)
  have : 1024 * F1 F≤2 ^ 64:=by cases F <;> decide
  omega
 obtain ⟨k1,k2⟩:=Zym (Nat.le_trans (by decide) (ZrU F)) g3 g4 r1 r2 hQ
 have e : d.m * 2 ^ (d.e - 2 * L).toNat = M * (2 ^ (E - L).toNat * 2 ^ (E - L).toNat):=by
  rw [hM,← Nat.pow_add,Nat.mul_assoc,← Nat.pow_add]
  congr 2
  omega
 rw [e]
 exact ⟨g1,m,by rw [g2]; simp,k1,k2⟩
theorem ZDE (F : Fm) {d : Dy} (nz : Nz d) (h0 : d.m≠0) (h1 : F.low + F.fr + 1≤d.e + blen d.m) (h2 : d.e + blen d.m < F.wide) :
  (rndW F 1 d).1 < 2 * F.sg∧F.fin (rndW F 1 d).1∧∀ L,L≤F.low→L≤d.e - 60→LoE (F.vl (rndW F 1 d).1) L∧∃ m : Nat,iv (F.vl (rndW F 1 d).1) L = (if d.n then -1 else 1) * (m : Int) ∧
   F1 F * m≤F1 F * (d.m * 2 ^ (d.e - L).toNat) + d.m * 2 ^ (d.e - L).toNat∧F1 F * (d.m * 2 ^ (d.e - L).toNat)≤F1 F * m + d.m * 2 ^ (d.e - L).toNat:=by
 have hF:=ZaM F
 have ho:=nz.2 h0
 have hb:=Zap h0 (F.fr + 2)
 have hb1:=ZaS h0
 have e : d = mkD d.n (d.m * 2 ^ (F.fr + 2)) (d.e - (F.fr + 2 : Nat)):=by rw [ZpT ho]
 have hs:=Zoo F 1 d.n (M:=d.m * 2 ^ (F.fr + 2)) (d.e - (F.fr + 2 : Nat)) (by omega)
 rw [← e] at hs
 rw [hs]
 obtain ⟨s1,s2,s3⟩:=Zys F d.n (Q:=d.m * 2 ^ (F.fr + 2)) false (d.e - (F.fr + 2 : Nat)) (by omega) (by omega) (by omega)
 refine ⟨s1,s2,fun L l1 l2 => ?_⟩
 obtain ⟨g1,m,g2,g3,g4⟩:=s3 L l1 (by omega)
 have e2 : d.m * 2 ^ (F.fr + 2) * 2 ^ (d.e - (F.fr + 2 : Nat) - L).toNat = d.m * 2 ^ (d.e - L).toNat:=by
  rw [Nat.mul_assoc,← Nat.pow_add]
  congr 2
  omega
 rw [e2] at g3 g4
 exact ⟨g1,m,g2,g3,g4⟩
theorem Zxa (F H : Fm) (hFH : fk F≠fk H) {w : Nat} (hw : w < 2 * F.sg) (hf : F.fin w) (h0 : (F.vl w).m≠0) (hr : (rndW H 1 (F.vl w)).1 < 2 * H.sg∧H.fin (rndW H 1 (F.vl w)).1) :
  evFcv (fk F) (fk H) (flA F w) = some (flA H (rndW H 1 (F.vl w)).1):=by
 obtain ⟨m,p,r1,r2⟩:=ZmV F hw hf
 have hm : m≠0:=fun q => h0 (by rw [r2]; exact Zly.2 q)
 have e1 : (fk H).encode (.number (F.ng w) m p) = (rndW H 1 (F.vl w)).1:=by
  show (fk H).format.write _ = _
  rw [ZhX,if_neg hm,r2]
 obtain ⟨m',p',r1',_⟩:=ZmV H hr.1 hr.2
 have e2 : (fk H).decode (rndW H 1 (F.vl w)).1 = .number (H.ng (rndW H 1 (F.vl w)).1) m' p':=r1'
 have e3 : (fk F).decode w = .number (F.ng w) m p:=r1
 unfold flA evFcv
 simp only [ne_eq,not_true_eq_false,if_false,hFH,e3,e1,e2]
 rfl
theorem Rl.scale {U : Nat} {n r : Int} (h : Rl U n r) (S : Int) : Rl U (n * S) (r * S):=by
 unfold Rl at *
 rw [← Int.sub_mul,Int.natAbs_mul,Int.natAbs_mul,← Nat.mul_assoc]
 exact Nat.mul_le_mul_right _ h
theorem Rl.neg {U : Nat} {n r : Int} (h : Rl U n r) : Rl U (-n) (-r):=by
 unfold Rl at *
 rw [show -n - -r = -(n - r) by omega,Int.natAbs_neg,Int.natAbs_neg]; exact h
theorem sum3 {U : Nat} (hU : 8≤U) {ac bd ps qs xs : Int} (h1 : Rl U ac ps) (h2 : Rl U bd qs) (h3 : Rl U (ps + qs) xs) : 8 * (U * (xs - (ac + bd)).natAbs)≤17 * (ac.natAbs + bd.natAbs):=by
 unfold Rl at *
 have t1 : (xs - (ac + bd)).natAbs≤(ps + qs - xs).natAbs + (ac - ps).natAbs + (bd - qs).natAbs:=by omega
 have t2:=Nat.mul_le_mul_left U t1
 rw [Nat.mul_add,Nat.mul_add] at t2
 have a1 : 8 * (ac - ps).natAbs≤U * (ac - ps).natAbs:=Nat.mul_le_mul_right _ hU
 have a2 : 8 * (bd - qs).natAbs≤U * (bd - qs).natAbs:=Nat.mul_le_mul_right _ hU
 omega
end Go.Cv
namespace Go.Cv
variable {G : Nat→Option (List AV)} {T : Tbl} {g : Nat}
theorem ZEo {F : Fm} {p q : Nat} {A C B D : Int} (h1 : Rl (F1 F) (A * C) (F.X p * (2 ^ F.sh : Nat))) (h2 : Rl (F1 F) (B * D) (F.X q * (2 ^ F.sh : Nat))) {x : Int} (h3 : Rl (F1 F) (F.X p + F.X q) x) :
  8 * (F1 F * (x * (2 ^ F.sh : Nat) - (A * C + B * D)).natAbs)≤17 * ((A * C).natAbs + (B * D).natAbs):=by
 have h4:=h3.scale ((2 ^ F.sh : Nat) : Int)
 rw [Int.add_mul] at h4
 exact sum3 (Nat.le_trans (by decide) (ZrU F)) h1 h2 h4
section
variable {F : Fm} {a b c d : Nat} (ha : a < 2 * F.sg) (hb : b < 2 * F.sg) (hc : c < 2 * F.sg) (hd : d < 2 * F.sg) (wa : inW F a) (wb : inW F b) (wc : inW F c) (wd : inW F d)
 include ha hb hc hd wa wb wc wd
end
end Go.Cv
namespace Go.Cv
variable {G : Nat→Option (List AV)} {T : Tbl} {g : Nat}
section
variable (J : Al G T g) (hM : HasM g T) (hL : HasL g T) {F : Fm} {a b c d : Nat} (hz : Zw F (a,b)) (hw : Zw F (c,d)) (iz : inZ F (a,b)) (iw : inZ F (c,d))
 include J hM hL hz hw iz iw
theorem ZDr (k n : Nat) : Ans F Zao.res Zao.body [(1,zA a b),(2,zA c d)] k (zA (fmX F a b c d) (fmY F a b c d)) 0 n n G T:=by
 obtain ⟨p1,_,_,p4⟩:=ZcA hz.1 hw.1 iz.1 iw.1
 obtain ⟨q1,_,_,q4⟩:=ZcA hz.2 hw.2 iz.2 iw.2
 obtain ⟨r1,_,_,r4⟩:=ZcA hz.1 hw.2 iz.1 iw.2
 obtain ⟨s1,_,_,s4⟩:=ZcA hz.2 hw.1 iz.2 iw.1
 obtain ⟨x1,_⟩:=Zzb p1 q1 p4 q4
 obtain ⟨y1,_⟩:=ZsK r1 s1 r4 s4
 exact ZEi J hM hL F hz hw ⟨iz,iw⟩ x1.lt y1.lt (Zvp hM F (ZiY hz.1 hw.1 p1.fin) (ZiY hz.2 hw.2 q1.fin) (ZAU p1.lt q1.lt x1.fin) (ZiY hz.1 hw.2 r1.fin) (ZiY hz.2 hw.1 s1.fin) (Ztu r1.lt s1.lt y1.fin))
theorem ZCT (k n : Nat) : Ans F Zan.res Zan.body [(1,zA a b),(2,zA c d)] k (zA (fdX F a b c d) (fdY F a b c d)) 0 n n G T:=by
 obtain ⟨p1,_,_,p4⟩:=ZcA hz.1 hw.1 iz.1 iw.1
 obtain ⟨q1,_,_,q4⟩:=ZcA hz.2 hw.2 iz.2 iw.2
 obtain ⟨r1,_,_,r4⟩:=ZcA hz.1 hw.2 iz.1 iw.2
 obtain ⟨s1,_,_,s4⟩:=ZcA hz.2 hw.1 iz.2 iw.1
 obtain ⟨c1,_,_,c4⟩:=ZcA hw.1 hw.1 iw.1 iw.1
 obtain ⟨d1,_,_,d4⟩:=ZcA hw.2 hw.2 iw.2 iw.2
 obtain ⟨t1,_,t3⟩:=ZsK p1 q1 p4 q4
 obtain ⟨u1,_,u3⟩:=Zzb s1 r1 s4 r4
 obtain ⟨n1,_,n3,_⟩:=Zqx hw.1 hw.2 iw.1 iw.2
 obtain ⟨x1,x2,_⟩:=Zza t1 t3 n1 n3
 obtain ⟨y1,y2,_⟩:=Zza u1 u3 n1 n3
 exact ZEh J hM hL F hz hw ⟨iz,iw⟩ x1 y1 (Zvo hM F (ZiY hw.1 hw.1 c1.fin) (ZiY hw.2 hw.2 d1.fin) (Ztu c1.lt d1.lt n1.fin) (ZiY hz.1 hw.1 p1.fin) (ZiY hz.2 hw.2 q1.fin) (Ztu p1.lt q1.lt t1.fin) (ZiY hz.2 hw.1 s1.fin) (ZiY hz.1 hw.2 r1.fin) (ZAU s1.lt r1.lt u1.fin) (ZAT t1.lt n1.lt x2) (ZAT u1.lt n1.lt y2))
end
theorem trB : type_of% (And.intro (And.intro (And.intro @ZBS @ZtM) (And.intro @ZAS @ZtL)) (And.intro (And.intro @Zxt @ZwW) (And.intro @Ztt (@ZoO (Env × Heap))))):=And.intro (And.intro (And.intro @ZBS @ZtM) (And.intro @ZAS @ZtL)) (And.intro (And.intro @Zxt @ZwW) (And.intro @Ztt (@ZoO (Env × Heap))))
end Go.Cv
namespace Go.Cv
variable {G : Nat→Option (List AV)} {T : Tbl} {g : Nat}
theorem ZmQ (F : Fm) (s : Nat) : magN F (s + 1) = magN F s + 2 ^ (s / 2 ^ F.fr - 1):=by
 unfold magN
 have hp:=Nat.two_pow_pos F.fr
 generalize 2 ^ F.fr = P at *
 have hd:=Nat.div_add_mod s P
 have hm:=Nat.mod_lt s hp
 have hd':=Nat.div_add_mod (s + 1) P
 have hm':=Nat.mod_lt (s + 1) hp
 by_cases h : s % P + 1 < P
 ·have e1 : (s + 1) / P = s / P:=by
   rw [Nat.div_eq_of_lt_le] <;> (rw [Nat.mul_comm]; try rw [Nat.mul_add]) <;> omega
  have e2 : (s + 1) % P = s % P + 1:=by rw [e1] at hd'; omega
  rw [e1,e2]
  by_cases h0 : s / P = 0
  ·rw [if_pos h0,if_pos h0,h0]
  ·rw [if_neg h0,if_neg h0,← Nat.add_assoc,Nat.add_mul (P + s % P),Nat.one_mul]
 ·have e1 : (s + 1) / P = s / P + 1:=by
   rw [Nat.div_eq_of_lt_le] <;> (rw [Nat.mul_comm]; rw [Nat.mul_add]; try rw [Nat.mul_add]) <;> omega
  have e2 : (s + 1) % P = 0:=by rw [e1,Nat.mul_add] at hd'; generalize P * (s / P) = Q at *; omega
  have e3 : ¬ (s / P + 1 = 0):=by generalize s / P = Q; omega
  rw [e1,e2]
  by_cases h0 : s / P = 0
  ·rw [if_pos h0,h0]; simp; omega
  ·rw [if_neg h0,if_neg e3]
   obtain ⟨k,hk⟩:=Nat.exists_eq_succ_of_ne_zero h0
   rw [hk]
   simp only [Nat.add_sub_cancel,Nat.add_zero]
   have e4 : P + s % P + 1 = 2 * P:=by omega
   rw [Nat.pow_succ,← Nat.mul_assoc,Nat.mul_comm (P * 2 ^ k) 2,← Nat.mul_assoc,← e4,Nat.add_mul (P + s % P),Nat.one_mul,Nat.succ_sub_one]
theorem ZzT (F : Fm) (s : Nat) : magN F (s + 1)≤F1 F * 2 ^ (s / 2 ^ F.fr - 1):=by
 rw [ZmQ]
 unfold magN F1
 have hp:=Nat.two_pow_pos F.fr
 rw [Nat.pow_succ]
 generalize 2 ^ F.fr = P at *
 have hm:=Nat.mod_lt s hp
 by_cases h0 : s / P = 0
 ·rw [if_pos h0,h0]; simp; omega
 ·rw [if_neg h0]
  have h1:=Nat.mul_le_mul_right (2 ^ (s / P - 1)) (show P + s % P + 1≤P * 2 by omega)
  rw [Nat.add_mul (P + s % P),Nat.one_mul] at h1
  exact h1
structure NR (F : Fm) (w Y : Nat) (L : Int) : Prop where
 lt : w < F.i0
 dn : ∀ o : Nat,o < w→magN F o * 2 ^ (F.low - L).toNat + magN F w * 2 ^ (F.low - L).toNat≤2 * Y
 up : ∀ o : Nat,w < o→2 * Y≤magN F w * 2 ^ (F.low - L).toNat + magN F o * 2 ^ (F.low - L).toNat
theorem ZxI (F : Fm) {d : Dy} (hn : d.n = false) (h0 : d.m≠0) (hv : (rndW F 1 d).2≠20) {L : Int} (l1 : L < F.low) (l2 : L < d.e) : NR F (rndW F 1 d).1 (d.m * 2 ^ (d.e - L).toNat) L:=by
 obtain ⟨A,U,W,e0,u,ex,S,_⟩:=Zyx F h0 l1 l2
 obtain ⟨b,fl,r,g,R⟩:=S.all 1 (by omega) (by omega)
 have hov : ¬ F.i0≤e0 + b.toNat:=by
  intro q; rw [r,if_pos q,if_pos q] at hv; exact hv rfl
 rw [if_neg hov,if_neg hov] at r
 have e : (rndW F 1 d).1 = e0 + b.toNat:=by rw [r,hn]; rfl
 rw [e,← S.hA]
 have hw:=S.worth
 have hw1:=S.worth1
 have hlo:=R.lo
 have hhi:=R.hi
 have hex:=R.exi
 have hxb:=R.xb
 obtain ⟨n1,n2⟩:=R.near (Or.inl rfl)
 have q1 : (W + 1) * U = W * U + U:=by rw [Nat.add_mul,Nat.one_mul]
 have q2 : (2 * W + 1) * U = 2 * (W * U) + U:=by rw [Nat.add_mul,Nat.one_mul,Nat.mul_assoc]
 rw [q1] at hhi hw1
 rw [q2] at n1 n2
 refine ⟨by omega,fun o ho => ?_,fun o ho => ?_⟩
 ·cases b
  ·simp only [Bool.toNat_false,Nat.add_zero] at *
   have:=Nat.mul_le_mul_right (2 ^ (F.low - L).toNat) (Zgt F (Nat.le_of_lt ho))
   rw [hw] at *
   omega
  ·have hx : ex = false:=by cases ex; rfl; exact absurd (hxb rfl) (by decide)
   have h3:=n1 rfl
   simp only [Bool.toNat_true] at *
   have h1:=Nat.mul_le_mul_right (2 ^ (F.low - L).toNat) (Zgt F (show o≤e0 by omega))
   have h2:=hw1 hx
   rw [h2]
   rw [hw] at h1
   omega
 ·cases b
  ·have h3:=n2 rfl
   simp only [Bool.toNat_false,Nat.add_zero] at *
   rw [hw]
   cases ex
   ·have h1:=Nat.mul_le_mul_right (2 ^ (F.low - L).toNat) (Zgt F (show e0 + 1≤o by omega))
    rw [hw1 rfl] at h1
    omega
   ·have h1:=Nat.mul_le_mul_right (2 ^ (F.low - L).toNat) (Zgt F (Nat.le_of_lt ho))
    rw [hw] at h1
    have:=hex.1 rfl
    omega
  ·have hx : ex = false:=by cases ex; rfl; exact absurd (hxb rfl) (by decide)
   simp only [Bool.toNat_true] at *
   have h1:=Nat.mul_le_mul_right (2 ^ (F.low - L).toNat) (Zgt F (Nat.le_of_lt ho))
   rw [hw1 hx] at *
   omega
theorem steps2 (F : Fm) {w1 w2 Y1 Y2 : Nat} {L : Int} (h1 : NR F w1 Y1 L) (h2 : NR F w2 Y2 L) (h : 2 * F1 F * Y1≤(2 * F1 F + 3) * Y2) : w1≤w2 + 2:=by
 rcases Nat.lt_or_ge (w2 + 2) w1 with q | q
 ·exfalso
  have a1:=h1.dn (w2 + 2) q
  have a2:=h2.up (w2 + 1) (by omega)
  have g0:=ZmQ F w2
  have g1:=ZmQ F (w2 + 1)
  have g2:=ZmQ F (w2 + 1 + 1)
  have l3:=Zgt F (show w2 + 1 + 1 + 1≤w1 by omega)
  have t:=ZzT F w2
  have p1 : 2 ^ (w2 / 2 ^ F.fr - 1)≤2 ^ ((w2 + 1) / 2 ^ F.fr - 1):=Nat.pow_le_pow_right (by decide) (Nat.sub_le_sub_right (Nat.div_le_div_right (by omega)) 1)
  have p2 : 2 ^ (w2 / 2 ^ F.fr - 1)≤2 ^ ((w2 + 1 + 1) / 2 ^ F.fr - 1):=Nat.pow_le_pow_right (by decide) (Nat.sub_le_sub_right (Nat.div_le_div_right (by omega)) 1)
  have pg:=Nat.two_pow_pos (w2 / 2 ^ F.fr - 1)
  generalize 2 ^ (w2 / 2 ^ F.fr - 1) = gp at *
  generalize 2 ^ ((w2 + 1) / 2 ^ F.fr - 1) = gp1 at *
  generalize 2 ^ ((w2 + 1 + 1) / 2 ^ F.fr - 1) = gp2 at *
  have pK:=Nat.two_pow_pos (F.low - L).toNat
  generalize 2 ^ (F.low - L).toNat = K at *
  have k1 : magN F (w2 + 1) * K = magN F w2 * K + gp * K:=by rw [g0,Nat.add_mul]
  have k2 : magN F (w2 + 1) * K + gp * K≤magN F (w2 + 1 + 1) * K:=by rw [← Nat.add_mul]; exact Nat.mul_le_mul_right _ (by omega)
  have k3 : magN F (w2 + 1 + 1) * K + gp * K≤magN F w1 * K:=by rw [← Nat.add_mul]; exact Nat.mul_le_mul_right _ (by omega)
  have k4 : magN F (w2 + 1) * K≤F1 F * (gp * K):=by rw [← Nat.mul_assoc]; exact Nat.mul_le_mul_right _ t
  have k5 : 1≤gp * K:=Nat.mul_pos pg pK
  change magN F (w2 + 1 + 1) * K + _≤_ at a1
  generalize magN F (w2 + 1 + 1) * K = X2 at *
  generalize magN F (w2 + 1) * K = X1 at *
  generalize magN F w2 * K = X0 at *
  generalize magN F w1 * K = X3 at *
  generalize gp * K = z at *
  have hU:=ZrU F
  generalize F1 F = U at *
  have m1:=Nat.mul_le_mul_left U (show Y2 + 2 * z≤Y1 by omega)
  rw [Nat.mul_add,Nat.mul_left_comm U 2 z] at m1
  have m2:=Nat.mul_le_mul_left U k5
  rw [Nat.add_mul,Nat.mul_assoc,Nat.mul_assoc] at h
  omega
 ·exact q
theorem ZDt {F : Fm} {a b V1 V2 : Nat} (u1 : 1024 * F1 F * (a * a)≤(1024 * F1 F + 1) * V1) (d1 : (1024 * F1 F - 1) * V1≤1024 * F1 F * (a * a)) (u2 : 1024 * F1 F * (b * b)≤(1024 * F1 F + 1) * V2) (d2 : (1024 * F1 F - 1) * V2≤1024 * F1 F * (b * b))
  (u3 : 8 * F1 F * V1≤(8 * F1 F + 17) * V2) (d3 : (8 * F1 F - 17) * V2≤8 * F1 F * V1) : 2 * F1 F * a≤(2 * F1 F + 3) * b∧2 * F1 F * b≤(2 * F1 F + 3) * a:=by
 have key : ∀ x y : Nat,(2 * F1 F + 3) * (2 * F1 F + 3) * (y * y) < 2 * F1 F * (2 * F1 F) * (x * x)∨2 * F1 F * x≤(2 * F1 F + 3) * y:=fun x y => by
  rcases Nat.lt_or_ge ((2 * F1 F + 3) * y) (2 * F1 F * x) with q | q
  ·left
   have:=Nat.mul_self_lt_mul_self q
   rw [Nat.mul_mul_mul_comm,Nat.mul_mul_mul_comm (2 * F1 F) x] at this
   exact this
  ·exact Or.inr q
 have f : F1 F = 16777216∨F1 F = 9007199254740992:=by cases F; exact Or.inl rfl; exact Or.inr rfl
 have k1:=key a b
 have k2:=key b a
 clear key
 generalize a * a = A at *
 generalize b * b = B at *
 generalize F1 F = U at *
 refine ⟨k1.resolve_left fun q => ?_,k2.resolve_left fun q => ?_⟩
 ·clear k1 k2
  rcases f with rfl | rfl <;> omega
 ·clear k1 k2
  rcases f with rfl | rfl <;> omega
theorem Zyp {U M Q : Nat} (q1 : Q * Q≤M) (q2 : M < (Q + 1) * (Q + 1)) (hQ : 2048 * U≤Q) (z : Nat) :
  1024 * U * ((2 * Q + (!decide (Q * Q = M)).toNat) * z * ((2 * Q + (!decide (Q * Q = M)).toNat) * z))≤(1024 * U + 1) * (4 * M * (z * z))∧(1024 * U - 1) * (4 * M * (z * z))≤1024 * U * ((2 * Q + (!decide (Q * Q = M)).toNat) * z * ((2 * Q + (!decide (Q * Q = M)).toNat) * z)):=by
 have e0 : (2 * Q) * (2 * Q) = 4 * (Q * Q):=by rw [Nat.mul_mul_mul_comm]
 have core : 1024 * U * ((2 * Q + (!decide (Q * Q = M)).toNat) * (2 * Q + (!decide (Q * Q = M)).toNat))≤(1024 * U + 1) * (4 * M)∧1024 * U * (4 * M)≤1024 * U * ((2 * Q + (!decide (Q * Q = M)).toNat) * (2 * Q + (!decide (Q * Q = M)).toNat)) + 4 * M:=by
  by_cases h : Q * Q = M
  ·rw [decide_eq_true h]
   simp only [Bool.not_true,Bool.toNat_false,Nat.add_zero]
   rw [e0,h,Nat.add_mul]
   omega
  ·rw [decide_eq_false h]
   simp only [Bool.not_false,Bool.toNat_true]
   have e1 : (2 * Q + 1) * (2 * Q + 1) = 4 * (Q * Q) + 4 * Q + 1:=by rw [Nat.add_mul,Nat.mul_add,e0]; omega
   have e2 : (Q + 1) * (Q + 1) = Q * Q + 2 * Q + 1:=by rw [Nat.add_mul,Nat.mul_add]; omega
   rw [e1]
   rw [e2] at q2
   have a1:=Nat.mul_le_mul_left U (show Q * Q + 1≤M by omega)
   have a2:=Nat.mul_le_mul_left U (show M≤Q * Q + 2 * Q by omega)
   have a3:=Nat.mul_le_mul_right Q hQ
   rw [Nat.mul_add,Nat.mul_one] at a1
   rw [Nat.mul_add,Nat.mul_left_comm U 2 Q] at a2
   rw [Nat.mul_assoc] at a3
   have f1 : 1024 * U * (4 * (Q * Q) + 4 * Q + 1) = 4096 * (U * (Q * Q)) + 4096 * (U * Q) + 1024 * U:=by grind
   have f2 : 1024 * U * (4 * M) = 4096 * (U * M):=by grind
   rw [f1,Nat.add_mul,f2]
   omega
 generalize 2 * Q + (!decide (Q * Q = M)).toNat = X at *
 have eX : X * z * (X * z) = X * X * (z * z):=Nat.mul_mul_mul_comm ..
 rw [eX]
 generalize X * X = N at *
 obtain ⟨c1,c2⟩:=core
 have m1:=Nat.mul_le_mul_right (z * z) c1
 have m2:=Nat.mul_le_mul_right (z * z) c2
 rw [Nat.mul_assoc,Nat.mul_assoc (1024 * U + 1)] at m1
 rw [Nat.add_mul,Nat.mul_assoc (1024 * U),Nat.mul_assoc (1024 * U)] at m2
 refine ⟨m1,?_⟩
 rw [Nat.sub_mul,Nat.one_mul]
 omega
def SQ (F : Fm) (w V : Nat) (L : Int) : Prop:=∃ Y : Nat,NR F w Y L∧1024 * F1 F * (Y * Y)≤(1024 * F1 F + 1) * V∧(1024 * F1 F - 1) * V≤1024 * F1 F * (Y * Y)
theorem Zyl (F : Fm) {d : Dy} (h0 : d.m≠0) (h2 : d.e + blen d.m + 1 < 2 * F.wide) {L : Int} (l1 : L < F.low) (l2 : 2 * L≤d.e - 200) : SQ F (rootW F 1 d).1 (d.m * 2 ^ (d.e - 2 * L).toNat) L:=by
 have hF:=ZaM F
 have hP : rootP d.e = 130 + (d.e % 2).toNat:=rfl
 obtain ⟨P,hPe⟩ : ∃ P,P = rootP d.e:=⟨_,rfl⟩
 obtain ⟨M,hM⟩ : ∃ M,M = d.m * 2 ^ P:=⟨_,rfl⟩
 obtain ⟨r1,r2⟩:=Zls M
 have hM0 : M≠0:=by rw [hM]; exact Nat.mul_ne_zero h0 (Nat.pos_iff_ne_zero.1 (Nat.two_pow_pos _))
 have hbM : blen M = blen d.m + P:=by rw [hM]; exact Zap h0 P
 have hb0:=ZaS h0
 have hQ0 : isq M≠0:=fun q => by
  rw [q] at r2
  have : M = 0:=by omega
  exact hM0 this
 obtain ⟨b1,b2⟩:=ZBf r1 r2 hM0 hQ0
 unfold rootW
 rw [← hPe,← hM]
 obtain ⟨E,hE⟩ : ∃ E,E = (d.e - (P : Nat)) / 2:=⟨_,rfl⟩
 rw [← hE]
 have hE2 : 2 * E = d.e - P:=by omega
 have hm : 2 * isq M + (!decide (isq M * isq M = M)).toNat≠0:=by omega
 rw [← ZlB F false (Q:=isq M) (!decide (isq M * isq M = M)) E (by omega),Zqc F false hm]
 have hb : blen (2 * isq M + (!decide (isq M * isq M = M)).toNat)≤blen (isq M) + 1:=by
  refine Zae.2 ?_
  have:=ZaH (isq M)
  have h3 : (!decide (isq M * isq M = M)).toNat≤1:=by cases decide (isq M * isq M = M) <;> decide
  rw [Nat.pow_succ]; omega
 have hQ : 2048 * F1 F≤isq M:=by
  have q : 2 ^ 64≤isq M:=ZaA.1 (by omega)
  have : 2048 * F1 F≤2 ^ 64:=by cases F <;> decide
  omega
 obtain ⟨k1,k2⟩:=Zyp (U:=F1 F) r1 r2 hQ (2 ^ (E - 1 - L).toNat)
 have hmd:=Zlx (n:=false) hm (E - 1)
 have hlo : (mkD false (2 * isq M + (!decide (isq M * isq M = M)).toNat) (E - 1)).m≠0:=fun q => hm (Zly.1 q)
 have hle : E - 1≤(mkD false (2 * isq M + (!decide (isq M * isq M = M)).toNat) (E - 1)).e:=Znx (ZcU (Int.le_refl _)) hlo
 have hn : (mkD false (2 * isq M + (!decide (isq M * isq M = M)).toNat) (E - 1)).n = false:=Zsp hm _
 have nr:=ZxI F hn hlo (Zql F hlo (by omega)) l1 (L:=L) (by omega)
 have hy:=Zhr (n:=false) (m:=2 * isq M + (!decide (isq M * isq M = M)).toNat) (e:=E - 1) (L:=L) (by omega)
 rw [ZqV,hn] at hy
 have hy2 : (mkD false (2 * isq M + (!decide (isq M * isq M = M)).toNat) (E - 1)).m * 2 ^ ((mkD false (2 * isq M + (!decide (isq M * isq M = M)).toNat) (E - 1)).e - L).toNat = (2 * isq M + (!decide (isq M * isq M = M)).toNat) * 2 ^ (E - 1 - L).toNat:=by
  simp only [Bool.false_eq_true,if_false,Int.one_mul] at hy
  exact Int.ofNat.inj hy
 rw [hy2] at nr
 have e : d.m * 2 ^ (d.e - 2 * L).toNat = 4 * M * (2 ^ (E - 1 - L).toNat * 2 ^ (E - 1 - L).toNat):=by
  have e3 : (2 : Nat) ^ (d.e - 2 * L).toNat = 4 * (2 ^ P * (2 ^ (E - 1 - L).toNat * 2 ^ (E - 1 - L).toNat)):=by
   rw [show (4 : Nat) = 2 ^ 2 from rfl,← Nat.pow_add,← Nat.pow_add,← Nat.pow_add]; congr 1; omega
  rw [hM,e3]
  grind
 rw [e]
 exact ⟨_,nr,k1,k2⟩
theorem Zxm {d : Dy} (h : d.n = false) (L : Int) : iv d L = ((d.m * 2 ^ (d.e - L).toNat : Nat) : Int):=by
 unfold iv; rw [h]; simp
theorem ZmG {d : Dy} {L : Int} (h : 0 < iv d L) : d.n = false∧d.m≠0:=by
 unfold iv at h
 constructor
 ·cases hn : d.n
  ·rfl
  ·rw [hn] at h; simp only [if_true] at h; omega
 ·intro q; rw [q,Nat.zero_mul] at h; simp at h
theorem ZFX {F : Fm} {w : Nat} (hf : F.fin w) (h : 0 < F.X w) : F.ng w = false:=by
 obtain ⟨h1,h2⟩:=ZmG h
 rw [ZcV hf] at h1 h2
 unfold Fm.val at h1 h2
 split at h1
 ·rename_i q; rw [if_pos q] at h2; rwa [Zsp (fun z => h2 (Zly.2 z))] at h1
 ·rename_i q; rw [if_neg q] at h2; rwa [Zsp (fun z => h2 (Zly.2 z))] at h1
theorem ZuD {F : Fm} {w : Nat} (hw : w < 2 * F.sg) (hf : F.fin w) (h : 0 < F.X w) : sqrtW F 1 w = rootW F 1 (F.vl w):=by
 unfold sqrtW
 have h1 : F.cls w≠1:=fun q => by rw [ZiX hw q] at h; omega
 rw [if_neg (Zgq hf).1,if_neg h1,ZFX hf h,if_neg (by decide),if_neg (Zgq hf).2]
theorem eb {d : Dy} {L : Int} {m : Nat} (h0 : d.m≠0) (hl : LoE d L) (h : iv d L = (m : Int)) : d.e + blen d.m = L + blen m:=by
 have h1:=Zzs d L
 rw [Zap h0,h] at h1
 have h2:=Znx hl h0
 have h3 : bl (m : Int) = blen m:=rfl
 omega
theorem Zps {a b : Nat} (h : a≤2 * b) (hb : b≠0) : blen a≤blen b + 1:=by
 have h1:=Zap hb 1
 have h2:=ZaF h
 rw [show b * 2 ^ 1 = 2 * b by omega] at h1
 omega
theorem Zyy {s : Nat} (hs : s < 2 * Fm.s.sg) (hf : Fm.s.fin s) (hx : 0 < Fm.s.X s) {L : Int} (hL : L≤-3000) (htop : (Fm.s.vl s).e + blen (Fm.s.vl s).m + 5 < 128) :
  ∃ s' t : Nat,(s' = (rndW .d 1 (Fm.s.vl s)).1∧t = (sqrtW .d 1 s').1)∧(s' < 2 * Fm.d.sg∧Fm.d.fin s')∧(t < 2 * Fm.d.sg∧Fm.d.fin t∧(Fm.d.vl t).m≠0) ∧
   SQ .s (rndW .s 1 (Fm.d.vl t)).1 ((Fm.s.vl s).m * 2 ^ ((Fm.s.vl s).e - 2 * L).toNat) L:=by
 obtain ⟨n0,m0⟩:=ZmG hx
 have le:=Znx (Zbi hf) m0
 have hb0:=ZaS m0
 have lows : Fm.s.low = -149:=rfl
 have lowd : Fm.d.low = -1074:=rfl
 have frd : Fm.d.fr = 52:=rfl
 have wd : Fm.d.wide = 1024:=rfl
 have ws : Fm.s.wide = 128:=rfl
 rw [lows] at le
 obtain ⟨a1,a2,a3⟩:=ZDE .d (Zfw .s s) m0 (by omega) (by omega)
 refine ⟨_,_,⟨rfl,rfl⟩,⟨a1,a2⟩,?_⟩
 generalize (rndW .d 1 (Fm.s.vl s)).1 = s' at *
 obtain ⟨b1,m',b2,b3,b4⟩:=a3 (2 * L) (by omega) (by omega)
 rw [n0] at b2
 simp only [Bool.false_eq_true,if_false,Int.one_mul] at b2
 have hV:=eb m0 (Or.inr (by omega) : LoE (Fm.s.vl s) (2 * L)) (Zxm n0 _)
 have hV0 : (Fm.s.vl s).m * 2 ^ ((Fm.s.vl s).e - 2 * L).toNat≠0:=Nat.mul_ne_zero m0 (Nat.pos_iff_ne_zero.1 (Nat.two_pow_pos _))
 generalize (Fm.s.vl s).m * 2 ^ ((Fm.s.vl s).e - 2 * L).toNat = V at *
 have u1 : F1 .d = 9007199254740992:=rfl
 have u2 : F1 .s = 16777216:=rfl
 rw [u1] at b3 b4
 have m'0 : m'≠0:=by omega
 have c1:=Zps (show V≤2 * m' by omega) m'0
 have c2:=Zps (show m'≤2 * V by omega) hV0
 have p1 : 0 < iv (Fm.d.vl s') (2 * L):=by omega
 obtain ⟨n1,m1⟩:=ZmG p1
 have e1:=eb m1 b1 b2
 have p2 : 0 < Fm.d.X s':=by
  have:=ZiG (L':=2 * L) (Zbi a2) (by omega)
  rw [this] at p1
  exact Int.pos_of_mul_pos_left p1 (by have:=Nat.two_pow_pos (Fm.d.low - 2 * L).toNat; omega)
 rw [ZuD a1 a2 p2]
 have le1:=Znx (Zbi a2) m1
 obtain ⟨r1,r2,r3⟩:=ZGo .d (d:=Fm.d.vl s') m1 (by omega) (by omega)
 generalize (rootW .d 1 (Fm.d.vl s')).1 = t at *
 obtain ⟨g1,m,g2,g3,g4⟩:=r3 L (by omega) (by omega)
 obtain ⟨g1',m2,g2',_,_⟩:=r3 (L + 1) (by omega) (by omega)
 rw [Zxm n1] at b2
 have b2:=Int.ofNat.inj b2
 rw [b2,u1] at g3 g4
 have q1 : 1024 * 9007199254740992 * m * (1024 * 9007199254740992 * m) = 1024 * 9007199254740992 * (1024 * 9007199254740992) * (m * m):=Nat.mul_mul_mul_comm ..
 rw [q1] at g3 g4
 have hmm : m * m≠0:=by intro q; rw [q] at g4; omega
 have hm0 : m≠0:=by rintro rfl; exact hmm rfl
 have p3 : 0 < iv (Fm.d.vl t) L:=by omega
 obtain ⟨n2,m2'⟩:=ZmG p3
 refine ⟨⟨r1,r2,m2'⟩,?_⟩
 have e2:=eb m2' g1 g2
 have d1 : 2 * blen m≤blen m' + 2:=by
  have h1:=Zbo hm0
  have h2:=Nat.mul_le_mul h1 h1
  rw [← Nat.pow_add] at h2
  have h3:=ZaA.2 (Nat.le_trans h2 (show m * m≤2 * m' by omega))
  have h4:=Zps (Nat.le_refl (2 * m')) m'0
  have:=ZaS hm0
  omega
 have le2:=Znx g1' m2'
 have nr:=ZxI .s n2 m2' (Zql .s m2' (by omega)) (L:=L) (by omega) (by omega)
 rw [Zxm n2] at g2
 rw [Int.ofNat.inj g2] at nr
 refine ⟨m,nr,?_,?_⟩ <;> rw [u2] <;> omega
end Go.Cv
namespace Go.Cv
variable {G : Nat→Option (List AV)} {T : Tbl} {g : Nat}
section
variable {F : Fm} {a b : Nat} (ha : a < 2 * F.sg) (hb : b < 2 * F.sg) (wa : inW F a) (wb : inW F b)
 include ha hb wa wb
theorem ZCm : iv (sqD F a b) (F.low + F.low) = F.X a * F.X a + F.X b * F.X b∧LoE (sqD F a b) (F.low + F.low)∧0 < F.X a * F.X a + F.X b * F.X b∧(F.X a * F.X a + F.X b * F.X b).natAbs < 2 ^ (2 * F.hi + 1):=by
 have fa:=Zbi (Zmb ha wa).1.fin
 have fb:=Zbi (Zmb hb wb).1.fin
 obtain ⟨m1,o1⟩:=Zgs fa fa
 obtain ⟨m2,o2⟩:=Zgs fb fb
 obtain ⟨e1,e2⟩:=Zgr o1 o2
 rw [m1,m2] at e1
 have sc:=ZkT (F.X a)
 have sd':=ZkT (F.X b)
 have h0:=Nat.two_pow_pos F.lo
 have h1:=(Zmb ha wa).2.1
 have h2 : F.X a≠0:=by omega
 have h3 : 0 < F.X a * F.X a:=by
  rcases Int.lt_or_gt_of_ne h2 with q | q
  ·exact Int.mul_pos_of_neg_of_neg q q
  ·exact Int.mul_pos q q
 refine ⟨e1,e2,by omega,?_⟩
 have k1:=(Zmb ha wa).1.hi
 have k2:=(Zmb hb wb).1.hi
 have l1 : (F.X a * F.X a).natAbs < 2 ^ (F.hi + F.hi):=by rw [Int.natAbs_mul,Nat.pow_add]; exact Nat.mul_lt_mul'' k1 k1
 have l2 : (F.X b * F.X b).natAbs < 2 ^ (F.hi + F.hi):=by rw [Int.natAbs_mul,Nat.pow_add]; exact Nat.mul_lt_mul'' k2 k2
 rw [Nat.pow_succ,show 2 * F.hi = F.hi + F.hi by omega]
 omega
theorem ZCQ : 8 * (F1 F * (F.X (fdN F a b) * ((2 ^ F.sh : Nat) : Int) - (F.X a * F.X a + F.X b * F.X b)).natAbs)≤17 * (F.X a * F.X a + F.X b * F.X b).natAbs:=by
 obtain ⟨_,n2,_,_⟩:=Zqx ha hb wa wb
 obtain ⟨_,c2,_,_⟩:=ZcA ha ha wa wa
 obtain ⟨_,d2,_,_⟩:=ZcA hb hb wb wb
 have sc:=ZkT (F.X a)
 have sd':=ZkT (F.X b)
 have e : (F.X a * F.X a + F.X b * F.X b).natAbs = (F.X a * F.X a).natAbs + (F.X b * F.X b).natAbs:=by omega
 rw [e]; exact ZEo c2 d2 n2
theorem ZEb {L : Int} (hL : L≤-3000) : SQ F (absZ F 1 a b).1 ((sqD F a b).m * 2 ^ ((sqD F a b).e - 2 * L).toNat) L:=by
 obtain ⟨s1,s2,s3,s4⟩:=ZCm ha hb wa wb
 obtain ⟨_,m0⟩:=ZmG (d:=sqD F a b) (L:=F.low + F.low) (by rw [s1]; exact s3)
 rw [Zzm F 1 (Zmb ha wa).1.fin (Zmb hb wb).1.fin]
 unfold rtW
 rw [if_neg m0]
 have ht:=ZyU m0 s2 (k:=2 * F.hi + 1) (by rw [s1]; exact s4)
 have hl:=Znx s2 m0
 have hn:=ZkU F
 have hF : -1074≤F.low∧100≤F.wide:=by cases F <;> decide
 exact Zyl F m0 (by omega) (by omega) (by omega)
theorem ZrD {r : Nat} {L : Int} (hL : L≤-3000) (h : SQ F r ((F.vl (fdN F a b)).m * 2 ^ ((F.vl (fdN F a b)).e - 2 * L).toNat) L) : r≤(absZ F 1 a b).1 + 2∧(absZ F 1 a b).1≤r + 2∧r < F.i0∧(absZ F 1 a b).1 < F.i0:=by
 obtain ⟨Y1,n1,u1,d1⟩:=h
 obtain ⟨Y2,n2,u2,d2⟩:=ZEb ha hb wa wb hL
 obtain ⟨s1,s2,s3,_⟩:=ZCm ha hb wa wb
 obtain ⟨f1,_,_,f4⟩:=Zqx ha hb wa wb
 have dr:=ZCQ ha hb wa wb
 have hF : -1074≤F.low∧F.low≤-100:=by cases F <;> decide
 obtain ⟨k1,k2⟩:=ZmG f4
 have hs : 0 < iv (sqD F a b) (F.low + F.low):=by rw [s1]; exact s3
 obtain ⟨k3,k4⟩:=ZmG hs
 have i1:=ZiG (L':=2 * L) (Zbi f1.fin) (by omega)
 have i2:=ZiG (L':=2 * L) s2 (by omega)
 rw [Zxm k1] at i1
 rw [Zxm k3,s1] at i2
 change _ = F.X (fdN F a b) * _ at i1
 generalize (F.vl (fdN F a b)).m * 2 ^ ((F.vl (fdN F a b)).e - 2 * L).toNat = V1 at *
 generalize (sqD F a b).m * 2 ^ ((sqD F a b).e - 2 * L).toNat = V2 at *
 have z1 : (2 : Nat) ^ (F.low - 2 * L).toNat = 2 ^ F.sh * 2 ^ (F.low + F.low - 2 * L).toNat:=by
  rw [← Nat.pow_add]; congr 1; unfold Fm.sh; omega
 rw [z1,Int.natCast_mul,← Int.mul_assoc] at i1
 have hS : (0 : Int) < ((2 ^ F.sh : Nat) : Int):=by have:=Nat.two_pow_pos F.sh; omega
 have hp : 0 < F.X (fdN F a b) * ((2 ^ F.sh : Nat) : Int):=Int.mul_pos f4 hS
 generalize F.X (fdN F a b) * ((2 ^ F.sh : Nat) : Int) = A at *
 generalize F.X a * F.X a + F.X b * F.X b = B at *
 generalize (2 : Nat) ^ (F.low + F.low - 2 * L).toNat = z at *
 obtain ⟨A',rfl⟩ : ∃ A' : Nat,A = (A' : Int):=⟨A.toNat,by omega⟩
 obtain ⟨B',rfl⟩ : ∃ B' : Nat,B = (B' : Int):=⟨B.toNat,by omega⟩
 rw [← Int.natCast_mul] at i1 i2
 have i1:=Int.ofNat.inj i1
 have i2:=Int.ofNat.inj i2
 have hU:=ZrU F
 have v : 8 * F1 F * A'≤(8 * F1 F + 17) * B'∧(8 * F1 F - 17) * B'≤8 * F1 F * A':=by
  rw [Int.natAbs_natCast] at dr
  rw [Nat.add_mul,Nat.sub_mul,Nat.mul_assoc,Nat.mul_assoc]
  generalize F1 F = U at *
  rcases Nat.le_total A' B' with q | q
  ·have e : ((A' : Int) - (B' : Int)).natAbs = B' - A':=by omega
   rw [e,Nat.mul_sub] at dr
   have:=Nat.mul_le_mul_left U q
   omega
  ·have e : ((A' : Int) - (B' : Int)).natAbs = A' - B':=by omega
   rw [e,Nat.mul_sub] at dr
   have:=Nat.mul_le_mul_left U q
   omega
 have v1 : 8 * F1 F * V1≤(8 * F1 F + 17) * V2:=by rw [i1,i2,← Nat.mul_assoc,← Nat.mul_assoc]; exact Nat.mul_le_mul_right z v.1
 have v2 : (8 * F1 F - 17) * V2≤8 * F1 F * V1:=by rw [i1,i2,← Nat.mul_assoc,← Nat.mul_assoc]; exact Nat.mul_le_mul_right z v.2
 obtain ⟨w1,w2⟩:=ZDt u1 d1 u2 d2 v1 v2
 exact ⟨steps2 F n1 n2 w1,steps2 F n2 n1 w2,n1.lt,n2.lt⟩
end
theorem ZvW (J : Al G T g) (hM : HasM g T) (hL : HasL g T) {F : Fm} {a b : Nat} (hz : Zw F (a,b)) (iz : inZ F (a,b)) :
  ∃ r : Nat,(∀ k n,Ans F Zai.res Zai.body [(1,zA a b)] k (.int .u64 (r : Int)) 0 n n G T)∧r≤(absZ F 1 a b).1 + 2∧(absZ F 1 a b).1≤r + 2∧r < F.i0∧(absZ F 1 a b).1 < F.i0:=by
 obtain ⟨p1,_,_,p4⟩:=ZcA hz.1 hz.1 iz.1 iz.1
 obtain ⟨q1,_,_,q4⟩:=ZcA hz.2 hz.2 iz.2 iz.2
 obtain ⟨f1,_,_,f4⟩:=Zqx hz.1 hz.2 iz.1 iz.2
 obtain ⟨k1,k2⟩:=ZmG f4
 have ht:=ZyU k2 (Zbi f1.fin) f1.hi
 have hn:=ZkU F
 have le:=Znx (Zbi f1.fin) k2
 have e1:=ZiY hz.1 hz.1 p1.fin
 have e2:=ZiY hz.2 hz.2 q1.fin
 have e3:=Ztu p1.lt q1.lt f1.fin
 cases F
 ·-- a single
  have hnum : Fm.s.low + ((Fm.s.ph + 2 : Nat) : Int) + 5 < 128:=by decide
  have htop : (Fm.s.vl (fdN .s a b)).e + blen (Fm.s.vl (fdN .s a b)).m + 5 < 128:=by
   have ht' : (Fm.s.vl (fdN .s a b)).e + blen (Fm.s.vl (fdN .s a b)).m≤Fm.s.low + ((Fm.s.ph + 2 : Nat) : Int):=ht
   omega
  obtain ⟨s',t,⟨rfl,rfl⟩,⟨a1,a2⟩,⟨a3,a4,a5⟩,sq⟩:=Zyy f1.lt f1.fin f4 (Int.le_refl (-3000)) htop
  have sz:=ZrD hz.1 hz.2 iz.1 iz.2 (Int.le_refl (-3000)) sq
  have hr:=sz.2.2.1
  have hi:=ZcM .s
  have e4:=Zxa .s .d (by decide) f1.lt f1.fin k2 ⟨a1,a2⟩
  have e5:=ZyC .d a1
  rw [Zcp (fin5 a4)] at e5
  have hfr : Fm.s.fin (rndW .s 1 (Fm.d.vl (sqrtW .d 1 (rndW .d 1 (Fm.s.vl (fdN .s a b))).1).1)).1:=by
   have:=Zbw (F:=.s) false hr; exact this
  have e6:=Zxa .d .s (by decide) a3 a4 a5 ⟨by omega,hfr⟩
  exact ⟨_,fun k n => Zzf J hM hL hz iz (by have : Fm.s.sg = 2147483648:=rfl; omega) e1 e2 e3 e4 e5 e6,sz⟩
 ·have hL0 : (-3000 : Int) < Fm.d.low:=by decide
  have lowd : Fm.d.low = -1074:=rfl
  have sq:=Zyl .d (L := -3000) k2 (by have : Fm.d.wide = 1024:=rfl; omega) hL0 (by omega)
  rw [← ZuD f1.lt f1.fin f4] at sq
  have sz:=ZrD hz.1 hz.2 iz.1 iz.2 (Int.le_refl (-3000)) sq
  have hr:=sz.2.2.1
  have e5:=ZyC .d f1.lt
  have hfr : Fm.d.fin (sqrtW .d 1 (fdN .d a b)).1:=by
   have:=Zbw (F:=.d) false hr; exact this
  rw [Zcp (fin5 hfr)] at e5
  exact ⟨_,fun k n => Zze J hM hL hz iz e1 e2 e3 e5,sz⟩
theorem ZAl {F : Fm} {r W : Nat} (h1 : r≤W + 2) (h2 : W≤r + 2) (h3 : r < F.i0) (h4 : W < F.i0) : 0≤stepsI (pl F r) (pl F W)∧stepsI (pl F r) (pl F W)≤2:=by
 have hi:=ZcM F
 have a1:=(Zdt (F:=F) (s:=r) false (by omega)).2
 have a2:=(Zdt (F:=F) (s:=W) false (by omega)).2
 have z : F.sgn false = 0:=rfl
 rw [z,Nat.add_zero] at a1 a2
 rw [ZBF (by omega) a1,ZBF (by omega) a2]
 unfold stepsI
 split
 ·rw [Zad (by omega),Zbx]; omega
 ·rw [Zad (by omega),Zbx]; omega
set_option maxHeartbeats 16000000 in
theorem Zjt (J : Al G T g) (hM : HasM g T) (hL : HasL g T) {f : Int} {a b : Nat} (ha : a < 18446744073709551616) (hb : b < 18446744073709551616) : run G T 318 [.int .u8 f,zA a b] = some (.bool true):=by
 rw [Zac G T hM.Zjt]
 have hK:=ZiH (G:=G) J hM hL
 have hnil : (Heap.nil : Heap) = ⟨[],[]⟩:=rfl
 have c1:=Zaw G T hM.fast_New
 have c4:=Zaw G T hM.fast_Engine_Abs
 have c5:=Zaw G T hM.fast_Engine_Falls
 by_cases hf : f = 1∨f = 2
 ·obtain ⟨F,rfl⟩:=ZFm hf
  have s1:=ZjD J F
  have n1:=ZpA (G:=G) hM F (bs:=[zblk (a,b)])
  have g1:=ZiP J F ha hb
  by_cases hz : Zw F (a,b)
  ·rw [if_pos (show a < 2 * F.sg∧b < 2 * F.sg from hz)] at g1
   have i1:=Zhb J hM F (ZbS hz.1) (ZbS hz.2)
   change _ = some (AV.bool (decide (inZ F (a,b)))) at i1
   have w1:=Zol J F (md:=1) (by decide) hz.1 hz.2
   by_cases iz : inZ F (a,b)
   ·rw [decide_eq_true iz] at i1
    obtain ⟨r,an,r1,r2,r3,r4⟩:=ZvW J hM hL hz iz
    obtain ⟨B,m1,hk,e1⟩:=(an 1 0).use (bs:=[zblk (a,b),engB F.u 0]) rfl
    have p00:=e1 0 _ (by decide) rfl
    have p0:=fun L => ZaU p00 L
    have fl:=fun L => Zbh (G:=G) hL hM hk L
    have fl0:=Zdf (G:=G) hL hM hk
    have hi:=ZcM F
    have r5 : r < 2 * F.sg:=by omega
    have g2:=ZcO J F (ZbS r5)
    rw [if_pos r5] at g2
    have fi:=ZjC J F (ZbS r5)
    have hfr : F.fin r:=Zbw (F:=F) false r3
    rw [decide_eq_true hfr] at fi
    have sp:=Zds J F (ZbS r5)
    have hng : F.ng r = false:=(Zdt (F:=F) (s:=r) false (by omega)).2
    rw [hng] at sp
    have st:=ZkO J F r5 (show (absZ F 1 a b).1 < 2 * F.sg by omega)
    have sle:=ZAl r1 r2 r3 r4
    clear e1 hk ha hb hf hz iz an r1 r2 r3 r4 r5 hfr hng hi
    unfold zblk at *
    generalize stepsI (pl F r) (pl F (absZ F 1 a b).1) = sv at *
    obtain ⟨sl1,sl2⟩:=sle
    generalize absZ F 1 a b = W at *
    generalize F.ex r = rx at *
    generalize F.fc r = rf at *
    generalize F.u = fu at *
    simp only [zA,fldA,cast0,List.cons_append,List.nil_append,List.length_cons,List.length_nil,Nat.zero_add,show ((0 : Nat) : Int) = 0 from rfl] at *
    repeat' (first|simp (maxSteps:=9^7) only [seval,exC,Zba,fcB,ZkI,ZkH,gaB,trB,List.getElem?_cons_succ,List.getElem?_cons_zero,c1,c4,c5,n1,m1,fl,fl0,p00,p0,s1,i1,g1,g2,fi,sp,fd_3,st,w1,hK,ZuF,and_self,Zci,hnil]|simp (maxSteps:=9^7) (disch:=first|with_reducible assumption|omega) only [dxB]|(simp only [kdB];split)|(simp only [kvB];split))
   ·rw [decide_eq_false iz] at i1
    have x1:=ZiI J F (md:=1) (by decide) hz.1 hz.2
    obtain ⟨B,m1,hk,e1⟩:=(ZvI J hM hL F (k:=1) (n:=0) hz iz (by decide) x1).use (bs:=[zblk (a,b),engB F.u 0]) rfl
    have p00:=e1 0 _ (by decide) rfl
    have p0:=fun L => ZaU p00 L
    have fl:=fun L => Zbh (G:=G) hL hM hk L
    have fl0:=Zdf (G:=G) hL hM hk
    clear e1 hk ha hb hf hz iz x1
    unfold zblk at *
    generalize absZ F 1 a b = W at *
    generalize F.u = fu at *
    simp only [zA,cast0,List.cons_append,List.nil_append,List.length_cons,List.length_nil,Nat.zero_add,show ((0 : Nat) : Int) = 0 from rfl,show ((0 + 1 : Nat) : Int) = 1 from rfl,show ((1 : Nat) : Int) = 1 from rfl] at *
    repeat' (first|simp (maxSteps:=9^7) only [seval,exC,Zba,fcB,ZkI,ZkH,gaB,trB,List.getElem?_cons_succ,List.getElem?_cons_zero,c1,c4,c5,n1,m1,fl,fl0,p00,p0,s1,i1,g1,w1,hK,ZuF,and_self,Zci,hnil]|simp (maxSteps:=9^7) (disch:=first|with_reducible assumption|omega) only [dxB]|(simp only [kdB];split)|(simp only [kvB];split))
  ·rw [if_neg (show ¬ (a < 2 * F.sg∧b < 2 * F.sg) from hz)] at g1
   obtain ⟨B,m1,hk,e1⟩:=(ZvH J hM hL F (k:=1) (n:=0) ha hb hz).use (bs:=[zblk (a,b),engB F.u 0]) rfl
   have p00:=e1 0 _ (by decide) rfl
   have p0:=fun L => ZaU p00 L
   have fl:=fun L => Zbh (G:=G) hL hM hk L
   have fl0:=Zdf (G:=G) hL hM hk
   clear e1 hk ha hb hf hz
   unfold zblk at *
   generalize F.u = fu at *
   simp only [zA,cast0,List.cons_append,List.nil_append,List.length_cons,List.length_nil,Nat.zero_add,show ((0 : Nat) : Int) = 0 from rfl] at *
   repeat' (first|simp (maxSteps:=9^7) only [seval,exC,Zba,fcB,ZkI,ZkH,gaB,c1,c4,c5,n1,m1,fl,fl0,p00,p0,s1,g1,hK,ZuF,and_self,Zci,hnil]|simp (maxSteps:=9^7) (disch:=first|with_reducible assumption|omega) only [dxB]|(simp only [kdB];split)|(simp only [kvB];split))
 ·have s1:=ZlO J (f:=f)
  rw [decide_eq_false hf] at s1
  have n1:=ZoT (G:=G) hM hf (bs:=[zblk (a,b)])
  clear hf
  unfold zblk at *
  simp only [zA,List.cons_append,List.nil_append] at *
  repeat' (first|simp (maxSteps:=9^7) only [seval,exC,Zba,fcB,ZkI,ZkH,gaB,c1,n1,s1,hK,hnil]|simp (maxSteps:=9^7) (disch:=first|with_reducible assumption|omega) only [dxB]|(simp only [kdB];split)|(simp only [kvB];split))
end Go.Cv
namespace Go.Cv
variable {G : Nat→Option (List AV)} {T : Tbl} {g : Nat}
abbrev Cal:=Int × (Nat × Nat) × (Nat × Nat)
def cal5 (q : Cal) : List AV:=[.int .i64 q.1,.int .u64 (q.2.1.1 : Int),.int .u64 (q.2.1.2 : Int),.int .u64 (q.2.2.1 : Int),.int .u64 (q.2.2.2 : Int)]
def ccells : List Cal→List AV
 | [] => []
 | q :: l => cal5 q ++ ccells l
def CL (z : Bool) (l : List Cal) : AV:=if z = true∧l = [] then .nil else .imm l.length (ccells l)
theorem Zmi : ∀ l : List Cal,(ccells l).length = l.length * 5
 | [] => rfl
 | p :: l => by rw [ccells,List.length_append,List.length_cons,Zmi l,cal5]; simp only [List.length_cons,List.length_nil]; omega
def cc (l : List Cal) (i : Nat) : Cal:=l.getD i (0,(0,0),(0,0))
theorem ZEJ {l : List Cal} {i : Nat} (h : i < l.length) : cc l i = l[i]:=by unfold cc; rw [List.getD_eq_getElem?_getD,List.getElem?_eq_getElem h]; rfl
theorem ZEK {l : List Cal} {i : Nat} (h : i < l.length) : cc l i ∈ l:=by rw [ZEJ h]; exact List.getElem_mem h
theorem ZCW {l : List Cal} {i : Nat} (h : i < l.length) : l.drop i = cc l i :: l.drop (i + 1):=by rw [ZEJ h]; exact List.drop_eq_getElem_cons h
theorem Znn : ∀ (l : List Cal) (i : Nat),(ccells l).drop (i * 5) = ccells (l.drop i)
 | l,0 => by rw [Nat.zero_mul]; rfl
 | [],i + 1 => by simp [ccells]
 | p :: l,i + 1 => by
  rw [ccells,List.drop_succ_cons,← Znn l i,show (i + 1) * 5 = (cal5 p).length + i * 5 by rw [show (cal5 p).length = 5 from rfl]; omega,List.drop_append,List.drop_eq_nil_of_le (Nat.le_add_right ..),List.nil_append,Nat.add_sub_cancel_left]
theorem ZoQ : ∀ (l : List Cal) (j : Nat),(ccells l)[j]? = (l[j / 5]?).bind fun q => (cal5 q)[j % 5]?
 | [],j => by simp [ccells]
 | p :: l,j => by
  rw [ccells]
  rcases Nat.lt_or_ge j 5 with h | h
  ·rw [List.getElem?_append_left (show j < (cal5 p).length from h),Nat.div_eq_of_lt h,Nat.mod_eq_of_lt h]; rfl
  ·obtain ⟨k,rfl⟩ : ∃ k,j = k + 5:=⟨j - 5,by omega⟩
   rw [List.getElem?_append_right (show (cal5 p).length≤k + 5 from Nat.le_add_left ..),show k + 5 - (cal5 p).length = k from Nat.add_sub_cancel ..,ZoQ l k,Nat.add_div_right k (by decide),Nat.add_mod_right,List.getElem?_cons_succ]
theorem ZGV {z : Bool} {l : List Cal} (h : l≠[]) : CL z l = .imm l.length (ccells l):=by unfold CL; rw [if_neg (fun q => h q.2)]
theorem ZBm (z : Bool) (l : List Cal) : lenA (CL z l) = some l.length:=by
 unfold CL
 split
 ·next h => rw [h.2]; rfl
 ·rfl
theorem sn_C (g : Nat→Nat→Nat→Nat→Option AV) (z : Bool) (l : List Cal) : snapA g (CL z l) = some (CL z l):=by
 unfold CL
 split
 ·exact ZrF g
 ·exact ZuA g _ _
theorem Zsk {z : Bool} {l : List Cal} {k : IntKind} {j : Int} (h : 0≤j∧j.toNat < l.length) : iaddrV 5 (CL z l) (.int k j) = some (.iptr (ccells l) (j.toNat * 5)):=by
 rw [ZGV (by rintro rfl; exact absurd h.2 (Nat.not_lt_zero _)),iaddrV,if_pos ⟨h.1,by omega,by decide,Zmi l⟩]
theorem rd_C (m : Mem) {l : List Cal} {i : Nat} (h : i < l.length) : rdAt G m 5 (.iptr (ccells l) (i * 5)) = some (cal5 (cc l i)):=by
 rw [rdAt,if_pos (by rw [Zmi]; omega),Znn,ZCW h]; rfl
theorem ZFZ (z : Bool) (l : List Cal) : okCell (CL z l) = true:=by unfold CL; split <;> rfl
theorem ca_C (z : Bool) (l : List Cal) : cellsA (CL z l) = [CL z l]:=by unfold CL; split <;> rfl
theorem rl_C (gg : Nat→List Nat) (z : Bool) (m : List Cal) (l : List AV) : reachL gg (CL z m :: l) = reachL gg l:=by
 unfold CL
 split
 ·exact Zsz gg l
 ·exact Zyi gg _ _ l
theorem ZFn (h : Mem) (r : AV) (z : Bool) (m : List Cal) (args : List AV) : frz h r (CL z m :: args) = frz h r args:=by
 unfold CL
 split
 ·exact ZpN h r args
 ·exact Zsh h r _ _ args
theorem CB : type_of% (And.intro (And.intro @ZBm @sn_C) (And.intro (And.intro @ZFZ @ca_C) (And.intro @rl_C @ZFn))):=And.intro (And.intro @ZBm @sn_C) (And.intro (And.intro @ZFZ @ca_C) (And.intro @rl_C @ZFn))
theorem Zfs (e : Env) (h : Heap) : evL G T Zaj e h = kS G T (evL G T Zag (keepE [0,1,5,7,9,10] e) h) Zaj:=Zaf G T rfl e h
def fcE (f : Int) (z : Bool) (l : List Cal) (n i : Nat) : Env:=[(0,.int .u8 f),(1,CL z l),(5,.ptr 0 0),(7,.ptr 1 0),(9,.int .u64 (n : Int)),(10,.int .i64 (i : Int))]
theorem ZFg {f : Int} {z : Bool} {l : List Cal} {n i : Nat} {bs : List Blk} (h : l.length≤i∨200≤i) :
  evL G T Zaj (fcE f z l n i) ⟨bs,[]⟩ = some (.exit 0,[(0,.int .u8 f),(1,CL z l),(5,.ptr 0 0),(7,.ptr 1 0),(9,.int .u64 (n : Int)),(10,.int .i64 (i : Int)),(66,.bool false)],⟨bs,[]⟩):=by
 rw [Zfs]
 unfold fcE
 by_cases h1 : l.length≤i
 ·have hi : ¬ (i : Int) < (l.length : Int):=by omega
  repeat' (first|simp (maxSteps:=9^7) only [seval,exC,Zag,CB,hi]|simp (maxSteps:=9^7) (disch:=first|with_reducible assumption|omega) only [dxB]|(simp only [kdB];split)|(simp only [kvB];split))
 ·have hi : (i : Int) < (l.length : Int):=by omega
  have hj : ¬ (i : Int) < 200:=by omega
  repeat' (first|simp (maxSteps:=9^7) only [seval,exC,Zag,CB,hi,hj]|simp (maxSteps:=9^7) (disch:=first|with_reducible assumption|omega) only [dxB]|(simp only [kdB];split)|(simp only [kvB];split))
def calB (q : Cal) : Blk:=⟨cal5 q,false⟩
section
variable (J : Al G T g) (hM : HasM g T) (hL : HasL g T) (F : Fm) {z : Bool} {l : List Cal} {n i : Nat} {bs : List Blk} (hi : i < l.length) (h2 : i < 200) (hn : n≤i)
 (h64 : (cc l i).2.1.1 < 18446744073709551616∧(cc l i).2.1.2 < 18446744073709551616∧(cc l i).2.2.1 < 18446744073709551616∧(cc l i).2.2.2 < 18446744073709551616)
 (hk0 : bs[0]? = some (engB F.u n)) (hk1 : bs[1]? = some (engB F.u 0))
 include J hM hL hi h2 hn h64 hk0 hk1
set_option maxHeartbeats 16000000 in
theorem ZFe (h0 : (cc l i).1≠0) (h1 : (cc l i).1≠1) : ∃ (bs' : List Blk) (n' : Nat),evL G T Zaj (fcE F.u z l n i) ⟨bs,[]⟩ = evL G T Zaj (fcE F.u z l n' (i + 1)) ⟨bs',[]⟩∧n'≤n + 1∧bs'[0]? = some (engB F.u n')∧bs'[1]? = some (engB F.u 0):=by
 have hi' : (i : Int) < (l.length : Int):=by omega
 have hj' : (i : Int) < 200:=by omega
 have ia:=Zsk (z:=z) (l:=l) (k:=.i64) (j:=(i : Int)) ⟨by omega,by omega⟩
 rw [Int.toNat_natCast] at ia
 have rd:=fun mm => rd_C (G:=G) mm hi
 have w1 : IntKind.i64.wrap ((i : Int) + 1) = ((i + 1 : Nat) : Int):=by rw [Zad (by omega)]; omega
 have w2 : IntKind.u64.wrap ((n : Int) + 1) = ((n + 1 : Nat) : Int):=by rw [Zbx]; omega
 have c4:=Zaw G T hM.fast_Engine_Abs
 have c5:=Zaw G T hM.fast_Engine_Falls
 have hbl : bs.length≠0:=fun q => by rw [List.length_eq_zero_iff.1 q] at hk0; cases hk0
 generalize cc l i = q at *
 obtain ⟨x,⟨a,b⟩,c,d⟩:=q
 simp only at h0 h1 h64
 obtain ⟨ha,hb,hc,hd⟩:=h64
 have g1:=ZiP J F ha hb
 have k0 : (bs ++ [calB (x,(a,b),c,d),zblk (a,b)])[0]? = some (engB F.u n):=ZaU hk0 _
 have k1 : (bs ++ [calB (x,(a,b),c,d),zblk (a,b)])[1]? = some (engB F.u 0):=ZaU hk1 _
 have k2 : (bs ++ [calB (x,(a,b),c,d),zblk (a,b)])[bs.length]? = some (calB (x,(a,b),c,d)):=by rw [ga0]; rfl
 have hk0':=fun L => ZaU hk0 L
 have hk1':=fun L => ZaU hk1 L
 by_cases hz : Zw F (a,b)
 ·rw [if_pos (show a < 2 * F.sg∧b < 2 * F.sg from hz)] at g1
  have i1:=Zhb J hM F (ZbS hz.1) (ZbS hz.2)
  change _ = some (AV.bool (decide (inZ F (a,b)))) at i1
  by_cases iz : inZ F (a,b)
  ·rw [decide_eq_true iz] at i1
   obtain ⟨r,an,_⟩:=ZvW J hM hL hz iz
   obtain ⟨B,m1,e0,e1⟩:=(an 0 n).use k0
   have e2:=e1 _ _ hbl k2
   have e1:=e1 1 _ (by decide) k1
   have f0:=Zdf (G:=G) hL hM e0
   have f1:=Zdf (G:=G) hL hM e1
   refine ⟨B,n,?_,by omega,e0,e1⟩
   rw [Zfs]
   unfold fcE
   clear an e0 e1 k0 k1 k2 hk0 hk1 hbl ha hb hc hd hz iz
   simp only [calB,cal5,zblk,zA] at *
   generalize F.u = fu at *
   repeat' (first|simp (maxSteps:=9^7) only [seval,exC,Zag,fcB,CB,gaB,gbB,trB,ZkI,ZkH,Zci,ia,rd,w1,w2,hi',hj',h0,h1,c4,c5,g1,i1,m1,f0,f1,e2,hk0',hk1']|simp (maxSteps:=9^7) (disch:=first|with_reducible assumption|omega) only [dxB]|(simp only [kdB];split)|(simp only [kvB];split))
  ·rw [decide_eq_false iz] at i1
   have x1:=ZiI J F (md:=1) (by decide) hz.1 hz.2
   obtain ⟨B,m1,e0,e1⟩:=(ZvI J hM hL F (k:=0) (n:=n) hz iz (by omega) x1).use k0
   have e2:=e1 _ _ hbl k2
   have e1:=e1 1 _ (by decide) k1
   have f0:=Zdf (G:=G) hL hM e0
   have f1:=Zdf (G:=G) hL hM e1
   refine ⟨B,n + 1,?_,by omega,e0,e1⟩
   rw [Zfs]
   unfold fcE
   clear e0 e1 k0 k1 k2 hk0 hk1 hbl ha hb hc hd hz iz x1
   simp only [calB,cal5,zblk,zA] at *
   generalize F.u = fu at *
   repeat' (first|simp (maxSteps:=9^7) only [seval,exC,Zag,fcB,CB,gaB,gbB,trB,ZkI,ZkH,Zci,ia,rd,w1,w2,hi',hj',h0,h1,c4,c5,g1,i1,m1,f0,f1,e2,hk0',hk1']|simp (maxSteps:=9^7) (disch:=first|with_reducible assumption|omega) only [dxB]|(simp only [kdB];split)|(simp only [kvB];split))
 ·rw [if_neg (show ¬ (a < 2 * F.sg∧b < 2 * F.sg) from hz)] at g1
  obtain ⟨B,m1,e0,e1⟩:=(ZvH J hM hL F (k:=0) (n:=n) ha hb hz).use k0
  have e2:=e1 _ _ hbl k2
  have e1:=e1 1 _ (by decide) k1
  have f0:=Zdf (G:=G) hL hM e0
  have f1:=Zdf (G:=G) hL hM e1
  refine ⟨B,n,?_,by omega,e0,e1⟩
  rw [Zfs]
  unfold fcE
  clear e0 e1 k0 k1 k2 hk0 hk1 hbl ha hb hc hd hz
  simp only [calB,cal5,zblk,zA] at *
  generalize F.u = fu at *
  repeat' (first|simp (maxSteps:=9^7) only [seval,exC,Zag,fcB,CB,gaB,gbB,trB,ZkI,ZkH,Zci,ia,rd,w1,w2,hi',hj',h0,h1,c4,c5,g1,m1,f0,f1,e2,hk0',hk1']|simp (maxSteps:=9^7) (disch:=first|with_reducible assumption|omega) only [dxB]|(simp only [kdB];split)|(simp only [kvB];split))
end
end Go.Cv
namespace Go.Cv
variable {G : Nat→Option (List AV)} {T : Tbl} {g : Nat}
section
variable (J : Al G T g) (hM : HasM g T) (hL : HasL g T) (F : Fm) {z : Bool} {l : List Cal} {n i : Nat} {bs : List Blk} (hi : i < l.length) (h2 : i < 200) (hn : n≤i)
 (h64 : (cc l i).2.1.1 < 18446744073709551616∧(cc l i).2.1.2 < 18446744073709551616∧(cc l i).2.2.1 < 18446744073709551616∧(cc l i).2.2.2 < 18446744073709551616)
 (hk0 : bs[0]? = some (engB F.u n)) (hk1 : bs[1]? = some (engB F.u 0))
 include J hM hL hi h2 hn h64 hk0 hk1
set_option maxHeartbeats 16000000 in
theorem ZFh (h0 : (cc l i).1 = 0) : ∃ (bs' : List Blk) (n' : Nat),evL G T Zaj (fcE F.u z l n i) ⟨bs,[]⟩ = evL G T Zaj (fcE F.u z l n' (i + 1)) ⟨bs',[]⟩∧n'≤n + 1∧bs'[0]? = some (engB F.u n')∧bs'[1]? = some (engB F.u 0):=by
 have hi' : (i : Int) < (l.length : Int):=by omega
 have hj' : (i : Int) < 200:=by omega
 have ia:=Zsk (z:=z) (l:=l) (k:=.i64) (j:=(i : Int)) ⟨by omega,by omega⟩
 rw [Int.toNat_natCast] at ia
 have rd:=fun mm => rd_C (G:=G) mm hi
 have w1 : IntKind.i64.wrap ((i : Int) + 1) = ((i + 1 : Nat) : Int):=by rw [Zad (by omega)]; omega
 have w2 : IntKind.u64.wrap ((n : Int) + 1) = ((n + 1 : Nat) : Int):=by rw [Zbx]; omega
 have c4:=Zaw G T hM.fast_Engine_Mul
 have c5:=Zaw G T hM.fast_Engine_Falls
 have hbl : bs.length≠0:=fun q => by rw [List.length_eq_zero_iff.1 q] at hk0; cases hk0
 generalize cc l i = q at *
 obtain ⟨x,⟨a,b⟩,c,d⟩:=q
 simp only at h0 h64
 subst h0
 obtain ⟨ha,hb,hc,hd⟩:=h64
 have g1:=ZiP J F ha hb
 have g2:=Zok J F ha hb hc hd
 have k0 : (bs ++ [calB (0,(a,b),c,d),zblk (a,b)])[0]? = some (engB F.u n):=ZaU hk0 _
 have k1 : (bs ++ [calB (0,(a,b),c,d),zblk (a,b)])[1]? = some (engB F.u 0):=ZaU hk1 _
 have k2 : (bs ++ [calB (0,(a,b),c,d),zblk (a,b)])[bs.length]? = some (calB (0,(a,b),c,d)):=by rw [ga0]; rfl
 have hk0':=fun L => ZaU hk0 L
 have hk1':=fun L => ZaU hk1 L
 by_cases hz : Zw F (a,b)
 ·rw [if_pos (show a < 2 * F.sg∧b < 2 * F.sg from hz)] at g1
  have i1:=Zhb J hM F (ZbS hz.1) (ZbS hz.2)
  change _ = some (AV.bool (decide (inZ F (a,b)))) at i1
  by_cases hw : Zw F (c,d)
  ·rw [if_pos (show (a < 2 * F.sg∧b < 2 * F.sg)∧c < 2 * F.sg∧d < 2 * F.sg from ⟨hz,hw⟩)] at g2
   have i2:=Zhb J hM F (ZbS hw.1) (ZbS hw.2)
   change _ = some (AV.bool (decide (inZ F (c,d)))) at i2
   by_cases hin : inZ F (a,b)∧inZ F (c,d)
   ·obtain ⟨iz,iw⟩:=hin
    rw [decide_eq_true iz] at i1
    rw [decide_eq_true iw] at i2
    obtain ⟨B,m1,e0,e1⟩:=(ZDr J hM hL hz hw iz iw 0 n).use k0
    generalize fmX F a b c d = X at *
    generalize fmY F a b c d = Y at *
    have e2:=e1 _ _ hbl k2
    have e1:=e1 1 _ (by decide) k1
    have f0:=fun L => Zbh (G:=G) hL hM e0 L
    have f1:=fun L => Zbh (G:=G) hL hM e1 L
    have e2':=fun L => ZaU e2 L
    refine ⟨B ++ [⟨zcells [(a,b),(c,d)],false⟩],n,?_,by omega,ZaU e0 _,ZaU e1 _⟩
    rw [Zfs]
    unfold fcE
    clear e0 e1 k0 k1 k2 hk0 hk1 hbl ha hb hc hd hz hw iz iw
    simp only [calB,cal5,zblk,zA,zcl2] at *
    generalize F.u = fu at *
    repeat' (first|simp (maxSteps:=9^7) only [seval,exC,Zag,fcB,CB,gaB,gbB,trB,ZkI,ZkH,Zci,List.getElem?_cons_succ,List.getElem?_cons_zero,ia,rd,w1,w2,hi',hj',c4,c5,g1,g2,i1,i2,m1,f0,f1,e2,e2',hk0',hk1']|simp (maxSteps:=9^7) (disch:=first|with_reducible assumption|omega) only [dxB]|(simp only [kdB];split)|(simp only [kvB];split))
   ·have x1:=Zlp J F (md:=1) (by decide) hz.1 hz.2 hw.1 hw.2
    have hor : decide (inZ F (a,b)) = false∨decide (inZ F (a,b)) = true∧decide (inZ F (c,d)) = false:=by
     by_cases q : inZ F (a,b)
     ·exact Or.inr ⟨decide_eq_true q,decide_eq_false (fun r => hin ⟨q,r⟩)⟩
     ·exact Or.inl (decide_eq_false q)
    obtain ⟨B,m1,e0,e1⟩:=(ZvS J hM hL F (k:=0) (n:=n) hz hw hin (by omega) x1).use k0
    generalize mulZ F 1 a b c d = Q at *
    have e2:=e1 _ _ hbl k2
    have e1:=e1 1 _ (by decide) k1
    have f0:=fun L => Zbh (G:=G) hL hM e0 L
    have f1:=fun L => Zbh (G:=G) hL hM e1 L
    have e2':=fun L => ZaU e2 L
    refine ⟨B ++ [⟨zcells [(a,b),(c,d)],false⟩],n + 1,?_,by omega,ZaU e0 _,ZaU e1 _⟩
    rw [Zfs]
    unfold fcE
    clear e0 e1 k0 k1 k2 hk0 hk1 hbl ha hb hc hd hz hw hin x1
    simp only [calB,cal5,zblk,zA,zcl2] at *
    generalize decide (inZ F (a,b)) = iz at *
    generalize decide (inZ F (c,d)) = iw at *
    generalize F.u = fu at *
    rcases hor with rfl | ⟨rfl,rfl⟩
    all_goals repeat' (first|simp (maxSteps:=9^7) only [seval,exC,Zag,fcB,CB,gaB,gbB,trB,ZkI,ZkH,Zci,List.getElem?_cons_succ,List.getElem?_cons_zero,ia,rd,w1,w2,hi',hj',c4,c5,g1,g2,i1,i2,m1,f0,f1,e2,e2',hk0',hk1']|simp (maxSteps:=9^7) (disch:=first|with_reducible assumption|omega) only [dxB]|(simp only [kdB];split)|(simp only [kvB];split))
  ·rw [if_neg (show ¬ ((a < 2 * F.sg∧b < 2 * F.sg)∧c < 2 * F.sg∧d < 2 * F.sg) from fun q => hw q.2)] at g2
   obtain ⟨B,m1,e0,e1⟩:=(ZvQ J hM hL F (k:=0) (n:=n) ha hb hc hd (fun q => hw q.2)).use k0
   have e2:=e1 _ _ hbl k2
   have e1:=e1 1 _ (by decide) k1
   have f0:=fun L => Zbh (G:=G) hL hM e0 L
   have f1:=fun L => Zbh (G:=G) hL hM e1 L
   have e2':=fun L => ZaU e2 L
   refine ⟨B ++ [⟨zcells [(a,b),(c,d)],false⟩],n,?_,by omega,ZaU e0 _,ZaU e1 _⟩
   rw [Zfs]
   unfold fcE
   clear e0 e1 k0 k1 k2 hk0 hk1 hbl ha hb hc hd hz hw
   simp only [calB,cal5,zblk,zA,zcl2] at *
   generalize decide (inZ F (a,b)) = iz at *
   generalize F.u = fu at *
   cases iz
   all_goals repeat' (first|simp (maxSteps:=9^7) only [seval,exC,Zag,fcB,CB,gaB,gbB,trB,ZkI,ZkH,Zci,List.getElem?_cons_succ,List.getElem?_cons_zero,ia,rd,w1,w2,hi',hj',c4,c5,g1,g2,i1,m1,f0,f1,e2,e2',hk0',hk1']|simp (maxSteps:=9^7) (disch:=first|with_reducible assumption|omega) only [dxB]|(simp only [kdB];split)|(simp only [kvB];split))
 ·rw [if_neg (show ¬ (a < 2 * F.sg∧b < 2 * F.sg) from hz)] at g1
  rw [if_neg (show ¬ ((a < 2 * F.sg∧b < 2 * F.sg)∧c < 2 * F.sg∧d < 2 * F.sg) from fun q => hz q.1)] at g2
  obtain ⟨B,m1,e0,e1⟩:=(ZvQ J hM hL F (k:=0) (n:=n) ha hb hc hd (fun q => hz q.1)).use k0
  have e2:=e1 _ _ hbl k2
  have e1:=e1 1 _ (by decide) k1
  have f0:=fun L => Zbh (G:=G) hL hM e0 L
  have f1:=fun L => Zbh (G:=G) hL hM e1 L
  have e2':=fun L => ZaU e2 L
  refine ⟨B ++ [⟨zcells [(a,b),(c,d)],false⟩],n,?_,by omega,ZaU e0 _,ZaU e1 _⟩
  rw [Zfs]
  unfold fcE
  clear e0 e1 k0 k1 k2 hk0 hk1 hbl ha hb hc hd hz
  simp only [calB,cal5,zblk,zA,zcl2] at *
  generalize F.u = fu at *
  repeat' (first|simp (maxSteps:=9^7) only [seval,exC,Zag,fcB,CB,gaB,gbB,trB,ZkI,ZkH,Zci,List.getElem?_cons_succ,List.getElem?_cons_zero,ia,rd,w1,w2,hi',hj',c4,c5,g1,g2,m1,f0,f1,e2,e2',hk0',hk1']|simp (maxSteps:=9^7) (disch:=first|with_reducible assumption|omega) only [dxB]|(simp only [kdB];split)|(simp only [kvB];split))
end
end Go.Cv
namespace Go.Cv
variable {G : Nat→Option (List AV)} {T : Tbl} {g : Nat}
section
variable (J : Al G T g) (hM : HasM g T) (hL : HasL g T) (F : Fm) {z : Bool} {l : List Cal} {n i : Nat} {bs : List Blk} (hi : i < l.length) (h2 : i < 200) (hn : n≤i)
 (h64 : (cc l i).2.1.1 < 18446744073709551616∧(cc l i).2.1.2 < 18446744073709551616∧(cc l i).2.2.1 < 18446744073709551616∧(cc l i).2.2.2 < 18446744073709551616)
 (hk0 : bs[0]? = some (engB F.u n)) (hk1 : bs[1]? = some (engB F.u 0))
 include J hM hL hi h2 hn h64 hk0 hk1
set_option maxHeartbeats 16000000 in
theorem ZFf (h0 : (cc l i).1 = 1) : ∃ (bs' : List Blk) (n' : Nat),evL G T Zaj (fcE F.u z l n i) ⟨bs,[]⟩ = evL G T Zaj (fcE F.u z l n' (i + 1)) ⟨bs',[]⟩∧n'≤n + 1∧bs'[0]? = some (engB F.u n')∧bs'[1]? = some (engB F.u 0):=by
 have hi' : (i : Int) < (l.length : Int):=by omega
 have hj' : (i : Int) < 200:=by omega
 have ia:=Zsk (z:=z) (l:=l) (k:=.i64) (j:=(i : Int)) ⟨by omega,by omega⟩
 rw [Int.toNat_natCast] at ia
 have rd:=fun mm => rd_C (G:=G) mm hi
 have w1 : IntKind.i64.wrap ((i : Int) + 1) = ((i + 1 : Nat) : Int):=by rw [Zad (by omega)]; omega
 have w2 : IntKind.u64.wrap ((n : Int) + 1) = ((n + 1 : Nat) : Int):=by rw [Zbx]; omega
 have c4:=Zaw G T hM.fast_Engine_Div
 have c5:=Zaw G T hM.fast_Engine_Falls
 have hbl : bs.length≠0:=fun q => by rw [List.length_eq_zero_iff.1 q] at hk0; cases hk0
 generalize cc l i = q at *
 obtain ⟨x,⟨a,b⟩,c,d⟩:=q
 simp only at h0 h64
 subst h0
 obtain ⟨ha,hb,hc,hd⟩:=h64
 have g1:=ZiP J F ha hb
 have g2:=Zok J F ha hb hc hd
 have k0 : (bs ++ [calB (1,(a,b),c,d),zblk (a,b)])[0]? = some (engB F.u n):=ZaU hk0 _
 have k1 : (bs ++ [calB (1,(a,b),c,d),zblk (a,b)])[1]? = some (engB F.u 0):=ZaU hk1 _
 have k2 : (bs ++ [calB (1,(a,b),c,d),zblk (a,b)])[bs.length]? = some (calB (1,(a,b),c,d)):=by rw [ga0]; rfl
 have hk0':=fun L => ZaU hk0 L
 have hk1':=fun L => ZaU hk1 L
 by_cases hz : Zw F (a,b)
 ·rw [if_pos (show a < 2 * F.sg∧b < 2 * F.sg from hz)] at g1
  have i1:=Zhb J hM F (ZbS hz.1) (ZbS hz.2)
  change _ = some (AV.bool (decide (inZ F (a,b)))) at i1
  by_cases hw : Zw F (c,d)
  ·rw [if_pos (show (a < 2 * F.sg∧b < 2 * F.sg)∧c < 2 * F.sg∧d < 2 * F.sg from ⟨hz,hw⟩)] at g2
   have i2:=Zhb J hM F (ZbS hw.1) (ZbS hw.2)
   change _ = some (AV.bool (decide (inZ F (c,d)))) at i2
   by_cases hin : inZ F (a,b)∧inZ F (c,d)
   ·obtain ⟨iz,iw⟩:=hin
    rw [decide_eq_true iz] at i1
    rw [decide_eq_true iw] at i2
    obtain ⟨B,m1,e0,e1⟩:=(ZCT J hM hL hz hw iz iw 0 n).use k0
    generalize fdX F a b c d = X at *
    generalize fdY F a b c d = Y at *
    have e2:=e1 _ _ hbl k2
    have e1:=e1 1 _ (by decide) k1
    have f0:=fun L => Zbh (G:=G) hL hM e0 L
    have f1:=fun L => Zbh (G:=G) hL hM e1 L
    have e2':=fun L => ZaU e2 L
    refine ⟨B ++ [⟨zcells [(a,b),(c,d)],false⟩],n,?_,by omega,ZaU e0 _,ZaU e1 _⟩
    rw [Zfs]
    unfold fcE
    clear e0 e1 k0 k1 k2 hk0 hk1 hbl ha hb hc hd hz hw iz iw
    simp only [calB,cal5,zblk,zA,zcl2] at *
    generalize F.u = fu at *
    repeat' (first|simp (maxSteps:=9^7) only [seval,exC,Zag,fcB,CB,gaB,gbB,trB,ZkI,ZkH,Zci,List.getElem?_cons_succ,List.getElem?_cons_zero,ia,rd,w1,w2,hi',hj',c4,c5,g1,g2,i1,i2,m1,f0,f1,e2,e2',hk0',hk1']|simp (maxSteps:=9^7) (disch:=first|with_reducible assumption|omega) only [dxB]|(simp only [kdB];split)|(simp only [kvB];split))
   ·have x1:=ZnF J F (md:=1) (by decide) hz.1 hz.2 hw.1 hw.2
    have hor : decide (inZ F (a,b)) = false∨decide (inZ F (a,b)) = true∧decide (inZ F (c,d)) = false:=by
     by_cases q : inZ F (a,b)
     ·exact Or.inr ⟨decide_eq_true q,decide_eq_false (fun r => hin ⟨q,r⟩)⟩
     ·exact Or.inl (decide_eq_false q)
    obtain ⟨B,m1,e0,e1⟩:=(ZCw J hM hL F (k:=0) (n:=n) hz hw hin (by omega) x1).use k0
    generalize divZ F 1 a b c d = Q at *
    have e2:=e1 _ _ hbl k2
    have e1:=e1 1 _ (by decide) k1
    have f0:=fun L => Zbh (G:=G) hL hM e0 L
    have f1:=fun L => Zbh (G:=G) hL hM e1 L
    have e2':=fun L => ZaU e2 L
    refine ⟨B ++ [⟨zcells [(a,b),(c,d)],false⟩],n + 1,?_,by omega,ZaU e0 _,ZaU e1 _⟩
    rw [Zfs]
    unfold fcE
    clear e0 e1 k0 k1 k2 hk0 hk1 hbl ha hb hc hd hz hw hin x1
    simp only [calB,cal5,zblk,zA,zcl2] at *
    generalize decide (inZ F (a,b)) = iz at *
    generalize decide (inZ F (c,d)) = iw at *
    generalize F.u = fu at *
    rcases hor with rfl | ⟨rfl,rfl⟩
    all_goals repeat' (first|simp (maxSteps:=9^7) only [seval,exC,Zag,fcB,CB,gaB,gbB,trB,ZkI,ZkH,Zci,List.getElem?_cons_succ,List.getElem?_cons_zero,ia,rd,w1,w2,hi',hj',c4,c5,g1,g2,i1,i2,m1,f0,f1,e2,e2',hk0',hk1']|simp (maxSteps:=9^7) (disch:=first|with_reducible assumption|omega) only [dxB]|(simp only [kdB];split)|(simp only [kvB];split))
  ·rw [if_neg (show ¬ ((a < 2 * F.sg∧b < 2 * F.sg)∧c < 2 * F.sg∧d < 2 * F.sg) from fun q => hw q.2)] at g2
   obtain ⟨B,m1,e0,e1⟩:=(ZvM J hM hL F (k:=0) (n:=n) ha hb hc hd (fun q => hw q.2)).use k0
   have e2:=e1 _ _ hbl k2
   have e1:=e1 1 _ (by decide) k1
   have f0:=fun L => Zbh (G:=G) hL hM e0 L
   have f1:=fun L => Zbh (G:=G) hL hM e1 L
   have e2':=fun L => ZaU e2 L
   refine ⟨B ++ [⟨zcells [(a,b),(c,d)],false⟩],n,?_,by omega,ZaU e0 _,ZaU e1 _⟩
   rw [Zfs]
   unfold fcE
   clear e0 e1 k0 k1 k2 hk0 hk1 hbl ha hb hc hd hz hw
   simp only [calB,cal5,zblk,zA,zcl2] at *
   generalize decide (inZ F (a,b)) = iz at *
   generalize F.u = fu at *
   cases iz
   all_goals repeat' (first|simp (maxSteps:=9^7) only [seval,exC,Zag,fcB,CB,gaB,gbB,trB,ZkI,ZkH,Zci,List.getElem?_cons_succ,List.getElem?_cons_zero,ia,rd,w1,w2,hi',hj',c4,c5,g1,g2,i1,m1,f0,f1,e2,e2',hk0',hk1']|simp (maxSteps:=9^7) (disch:=first|with_reducible assumption|omega) only [dxB]|(simp only [kdB];split)|(simp only [kvB];split))
 ·rw [if_neg (show ¬ (a < 2 * F.sg∧b < 2 * F.sg) from hz)] at g1
  rw [if_neg (show ¬ ((a < 2 * F.sg∧b < 2 * F.sg)∧c < 2 * F.sg∧d < 2 * F.sg) from fun q => hz q.1)] at g2
  obtain ⟨B,m1,e0,e1⟩:=(ZvM J hM hL F (k:=0) (n:=n) ha hb hc hd (fun q => hz q.1)).use k0
  have e2:=e1 _ _ hbl k2
  have e1:=e1 1 _ (by decide) k1
  have f0:=fun L => Zbh (G:=G) hL hM e0 L
  have f1:=fun L => Zbh (G:=G) hL hM e1 L
  have e2':=fun L => ZaU e2 L
  refine ⟨B ++ [⟨zcells [(a,b),(c,d)],false⟩],n,?_,by omega,ZaU e0 _,ZaU e1 _⟩
  rw [Zfs]
  unfold fcE
  clear e0 e1 k0 k1 k2 hk0 hk1 hbl ha hb hc hd hz
  simp only [calB,cal5,zblk,zA,zcl2] at *
  generalize F.u = fu at *
  repeat' (first|simp (maxSteps:=9^7) only [seval,exC,Zag,fcB,CB,gaB,gbB,trB,ZkI,ZkH,Zci,List.getElem?_cons_succ,List.getElem?_cons_zero,ia,rd,w1,w2,hi',hj',c4,c5,g1,g2,m1,f0,f1,e2,e2',hk0',hk1']|simp (maxSteps:=9^7) (disch:=first|with_reducible assumption|omega) only [dxB]|(simp only [kdB];split)|(simp only [kvB];split))
end
end Go.Cv
namespace Go.Cv
variable {G : Nat→Option (List AV)} {T : Tbl} {g : Nat}
def C64 (l : List Cal) : Prop:=∀ q ∈ l,q.2.1.1 < 18446744073709551616∧q.2.1.2 < 18446744073709551616∧q.2.2.1 < 18446744073709551616∧q.2.2.2 < 18446744073709551616
theorem ZAV (J : Al G T g) (hM : HasM g T) (hL : HasL g T) (F : Fm) {z : Bool} {l : List Cal} (h64 : C64 l) : ∀ (m i n : Nat) (bs : List Blk),i + m = min l.length 200→n≤i→bs[0]? = some (engB F.u n)→bs[1]? = some (engB F.u 0) →
  ∃ (n' i' : Nat) (bs' : List Blk),evL G T Zaj (fcE F.u z l n i) ⟨bs,[]⟩ = some (.exit 0,[(0,.int .u8 F.u),(1,CL z l),(5,.ptr 0 0),(7,.ptr 1 0),(9,.int .u64 (n' : Int)),(10,.int .i64 (i' : Int)),(66,.bool false)],⟨bs',[]⟩)
 | 0,i,n,bs,hm,_,_,_ => ⟨n,i,bs,ZFg (by omega)⟩
 | m + 1,i,n,bs,hm,hn,hk0,hk1 => by
  have hi : i < l.length:=by omega
  have h2 : i < 200:=by omega
  have h6:=h64 _ (ZEK hi)
  have st : ∃ (bs' : List Blk) (n' : Nat),evL G T Zaj (fcE F.u z l n i) ⟨bs,[]⟩ = evL G T Zaj (fcE F.u z l n' (i + 1)) ⟨bs',[]⟩∧n'≤n + 1∧bs'[0]? = some (engB F.u n')∧bs'[1]? = some (engB F.u 0):=by
   by_cases h0 : (cc l i).1 = 0
   ·exact ZFh J hM hL F hi h2 hn h6 hk0 hk1 h0
   ·by_cases h1 : (cc l i).1 = 1
    ·exact ZFf J hM hL F hi h2 hn h6 hk0 hk1 h1
    ·exact ZFe J hM hL F hi h2 hn h6 hk0 hk1 h0 h1
  obtain ⟨bs',n',e,hn',k0,k1⟩:=st
  rw [e]
  exact ZAV J hM hL F h64 m (i + 1) n' bs' (by omega) (by omega) k0 k1
set_option maxHeartbeats 16000000 in
theorem ZiZ (J : Al G T g) (hM : HasM g T) (hL : HasL g T) {f : Int} {z : Bool} {l : List Cal} (h64 : C64 l) : run G T 320 [.int .u8 f,CL z l] = some (.bool true):=by
 rw [Zac G T hM.ZiZ]
 have hK:=ZiH (G:=G) J hM hL
 have hnil : (Heap.nil : Heap) = ⟨[],[]⟩:=rfl
 have c1:=Zaw G T hM.fast_New
 by_cases hf : f = 1∨f = 2
 ·obtain ⟨F,rfl⟩:=ZFm hf
  have s1:=ZjD J F
  have n1:=ZpA (G:=G) hM F (bs:=[])
  have n2:=ZpA (G:=G) hM F (bs:=[engB F.u 0])
  obtain ⟨n',i',bs',lp⟩:=ZAV J hM hL F (z:=z) h64 (min l.length 200) 0 0 [engB F.u 0,engB F.u 0] (by omega) (by omega) rfl rfl
  unfold fcE at lp
  clear hf
  generalize F.u = fu at *
  simp only [cast0,List.cons_append,List.nil_append,List.length_cons,List.length_nil,Nat.zero_add,show ((0 : Nat) : Int) = 0 from rfl] at *
  repeat' (first|simp (maxSteps:=9^7) only [seval,exC,ZbC,fcB,CB,c1,n1,n2,s1,lp,hK,hnil]|simp (maxSteps:=9^7) (disch:=first|with_reducible assumption|omega) only [dxB]|(simp only [kdB];split)|(simp only [kvB];split))
 ·have s1:=ZlO J (f:=f)
  rw [decide_eq_false hf] at s1
  have n1:=ZoT (G:=G) hM hf (bs:=[])
  clear hf
  repeat' (first|simp (maxSteps:=9^7) only [seval,exC,ZbC,fcB,CB,c1,n1,s1,hK,hnil]|simp (maxSteps:=9^7) (disch:=first|with_reducible assumption|omega) only [dxB]|(simp only [kdB];split)|(simp only [kvB];split))
end Go.Cv
