/-
 A part of the proof of the statements of this seat (texts that the law's own text leans on): no condition.
-/
import Derived.Test.YtddmoldiopnifaaGreatDoorM9
import Derived.Test.YtddmoldiopnifaaGreatDoorM8
import Derived.Test.YtddmoldiopnifaaGreatDoorM6
set_option linter.unusedVariables false
set_option linter.unusedSimpArgs false
namespace Go.Cv
variable {G : Nat→Option (List AV)} {T : Tbl} {g : Nat}
def floorD (d : Dy) : Dy:=if 0≤d.e then d else mkD d.n (d.m / 2 ^ (-d.e).toNat + if d.n && !decide (d.m % 2 ^ (-d.e).toNat = 0) then 1 else 0) 0
theorem ZoS : dl 1 = [1]:=by rw [ZmD (by decide)]; simp [Zaq]
def oneB : Blk:=⟨[.int .u32 1],false⟩
theorem ZxR : (⟨[.int .u32 1],false⟩ : Blk) = oneB:=rfl
theorem ZyA (a b : Blk) (bs : List Blk) (f : List Nat) : snapG (Heap.mem ⟨a :: b :: oneB :: bs,f⟩) 3 2 0 1 1 = some (D false (dl 1)):=by
 rw [ZoS]; exact ZlU (d:=2) (l:=[1]) rfl rfl
theorem ZzM (a b : Blk) (bs : List Blk) (f : List Nat) (r : AV) : (frz (Heap.mem ⟨a :: b :: oneB :: bs,f⟩) r [.own 2 0 1 1]).contains 1 = false:=by
 have e : reachL (reachG (Heap.mem ⟨a :: b :: oneB :: bs,f⟩) 3) [.own 2 0 1 1] = [2]:=rfl
 rw [frz,e]; cases refA r <;> rfl
theorem ZyK (a : Blk) {n0 n z : Bool} {m0 : AV} {x0 x : Int} {l : List Nat} (bs : List Blk) {f : List Nat} (hf : f.contains 1 = false) :
  storeV ⟨a :: B3 n0 m0 x0 :: bs,f⟩ 3 (.ptr 1 0) (A3 n (D z l) x) = some (.tup [],⟨a :: B3 n (D z l) x :: bs,f⟩):=store3 (h:=⟨a :: B3 n0 m0 x0 :: bs,f⟩) rfl hf
theorem ZiL (J : Al G T g) {z : Bool} {d : Dy} (hs : (dl d.m).length < 17179869183) (he : -1099511627776 < d.e∧d.e < 1099511627776) :
  ∃ z',run G T 66 [DyA z d] = some (DyA z' (floorD d)):=by
 obtain ⟨n,m,e⟩:=d
 simp only [DyA] at *
 apply exP
 rw [Zac G T J.C.ZiL]
 by_cases h0 : (0 : Int)≤e
 ·repeat (first | (simp (maxSteps:=9^7) only [seval,evB,ZbX,dyB,h0]) | (simp (disch:=omega) only [dsB]))
  exact Post.some ⟨z,by simp [floorD,h0]⟩
 ·obtain ⟨k,hk⟩ : ∃ k : Nat,-e = k:=⟨(-e).toNat,by omega⟩
  have hk2 : (-e).toNat = k:=by omega
  have hk3 : 0 - e = k:=by omega
  obtain ⟨z',hz⟩:=ZhM J (z:=z) (a:=m) (n:=k) (by omega) (by omega)
  have hb1:=Zaa m
  have hb2:=Zaa (m / 2 ^ k)
  have hb3:=Zam m k
  have hb4:=Zaa (m / 2 ^ k + 1)
  have hb5 : blen (m / 2 ^ k + 1)≤blen (m / 2 ^ k) + 1:=by
   rw [Zae,Nat.pow_succ]
   have:=ZaH (m / 2 ^ k); have:=Nat.two_pow_pos (blen (m / 2 ^ k)); omega
  have hfl : ∀ n,floorD ⟨n,m,e⟩ = mkD n (m / 2 ^ k + if n && !decide (m % 2 ^ k = 0) then 1 else 0) 0:=fun n => by
   simp only [floorD,if_neg h0,hk2]
  rw [hfl]
  cases n
  ·obtain ⟨z2,hz2⟩:=Zbv J (n:=false) (z:=z') (a:=m / 2 ^ k) (e:=0) (by omega) (by omega)
   repeat (first | (simp (maxSteps:=9^7) only [seval,evB,ZbX,dyB,h0,hk3,hz,hz2,DyA]) | (simp (disch:=omega) only [dsB]))
   exact Post.some ⟨z2,rfl⟩
  ·by_cases h1 : m % 2 ^ k = 0
   ·obtain ⟨z2,hz2⟩:=Zbv J (n:=true) (z:=z') (a:=m / 2 ^ k) (e:=0) (by omega) (by omega)
    repeat (first | (simp (maxSteps:=9^7) only [seval,evB,ZbX,dyB,h0,hk3,hz,hz2,DyA,h1]) | (simp (disch:=omega) only [dsB]))
    refine Post.some ⟨z2,?_⟩
    simp
   ·obtain ⟨z3,hz3⟩:=Zgv J (z:=z') (y:=false) (a:=m / 2 ^ k) (b:=1) (by omega) (by rw [ZoS]; decide)
    obtain ⟨z2,hz2⟩:=Zbv J (n:=true) (z:=z3) (a:=m / 2 ^ k + 1) (e:=0) (by omega) (by omega)
    have hst:=@ZyK (B3 true (D z (dl m)) e) false (mkD true (m / 2 ^ k + 1) 0).n z2 .nil 0 (mkD true (m / 2 ^ k + 1) 0).e (dl (mkD true (m / 2 ^ k + 1) 0).m) [oneB] _ (ZzM (B3 true (D z (dl m)) e) (B3 false .nil 0) [] [] (D z3 (dl (m / 2 ^ k + 1))))
    repeat (first | (simp (maxSteps:=9^7) only [seval,evB,ZbX,dyB,h0,hk3,hz,hz2,DyA,h1,ZxR,ZyA,hz3,hst]) | (simp (disch:=omega) only [dsB]))
    exact Post.some ⟨z2,rfl⟩
def twoD (n : Int) : Dy:=⟨false,1,n⟩
def addD (a b : Dy) : Dy :=
 if a.m = 0 then b else if b.m = 0 then a else
 if a.n = b.n then mkD a.n (a.m * 2 ^ (a.e - min a.e b.e).toNat + b.m * 2 ^ (b.e - min a.e b.e).toNat) (min a.e b.e)
 else if b.m * 2 ^ (b.e - min a.e b.e).toNat≤a.m * 2 ^ (a.e - min a.e b.e).toNat then mkD a.n (a.m * 2 ^ (a.e - min a.e b.e).toNat - b.m * 2 ^ (b.e - min a.e b.e).toNat) (min a.e b.e)
 else mkD b.n (b.m * 2 ^ (b.e - min a.e b.e).toNat - a.m * 2 ^ (a.e - min a.e b.e).toNat) (min a.e b.e)
def subD (a b : Dy) : Dy:=addD a (negD b)
def cmpD (a b : Dy) : Int :=
 if sgnD a≠sgnD b then (if sgnD a < sgnD b then -1 else 1)
 else if sgnD a = 0 then 0
 else if topD a≠topD b then (if decide (topD a < topD b) = decide (0 < sgnD a) then -1 else 1)
 else sgnD (subD a b)
structure Bd (d : Dy) (K : Nat) : Prop where
 bl : blen d.m≤K
 lo : -(K : Int)≤d.e
 hi : d.e≤K
theorem ZhZ (a k : Nat) : blen (a * 2 ^ k)≤blen a + k:=by
 by_cases h : a = 0
 ·subst h; rw [Nat.zero_mul,Zal]; omega
 ·rw [Zap h]; exact Nat.le_refl _
theorem ZkB (a b : Nat) : blen (a + b)≤max (blen a) (blen b) + 1:=by
 rw [Zae,Nat.pow_succ]
 have h1:=ZaH a
 have h2:=ZaH b
 have h3 : 2 ^ blen a≤2 ^ max (blen a) (blen b):=Nat.pow_le_pow_right (by decide) (by omega)
 have h4 : 2 ^ blen b≤2 ^ max (blen a) (blen b):=Nat.pow_le_pow_right (by decide) (by omega)
 omega
theorem ZlM (J : Al G T g) {n : Int} : run G T 68 [.int .i64 n] = some (DyA false (twoD n)):=by
 rw [Zac G T J.C.ZlM]
 have hb : ∀ (F : CallF) (d : Option Nat) (a c : IOpd) (os : List IOper) (e : Env) (h : Heap),evOps G F (⟨d,.build [.bool false,.nil,.int .i64 0] [(1,1,a),(2,1,c)],none⟩ :: os) e h =
  kV G F ((fillA [.bool false,.nil,.int .i64 0] [(1,1,opd e a),(2,1,opd e c)]).map .agg) d os e h:=fun F d a c os e h => ZlW G F d os e h _ _
 have hf : fillA [.bool false,.nil,.int .i64 0] [(1,1,.own 1 0 1 1),(2,1,.int .i64 n)] = some [.bool false,.own 1 0 1 1,.int .i64 n]:=rfl
 have hs : storeV ⟨[B3 false .nil 0,oneB],[]⟩ 3 (.ptr 0 0) (A3 false (.own 1 0 1 1) n) = some (.tup [],⟨[B3 false (.own 1 0 1 1) n,oneB],[]⟩):=rfl
 have hsn : snapA (snapG (Heap.mem ⟨[B3 false (.own 1 0 1 1) n,oneB],[]⟩) 3) (A3 false (.own 1 0 1 1) n) = some (DyA false (twoD n)):=by
  have e1 : snapG (Heap.mem ⟨[B3 false (.own 1 0 1 1) n,oneB],[]⟩) 3 1 0 1 1 = some (D false [1]):=ZlU (d:=2) (l:=[1]) rfl rfl
  simp only [A3,Zuz,Zox,Zqr,ZuB,ZrE,Zuw,e1,ZhG,Option.map_some,DyA,twoD,ZoS]
 repeat (first | (simp (maxSteps:=9^7) only [seval,evB,Zit,dyB,hb,hf,ZxR,hs,hsn]) | (simp (disch:=omega) only [dsB]))
theorem ZhO (J : Al G T g) {z y : Bool} {a b : Dy} (ha : Bd a 34359738368) (hb : Bd b 34359738368) :
  ∃ z',run G T 67 [DyA z a,DyA y b] = some (DyA z' (addD a b)):=by
 obtain ⟨n,m,e⟩:=a
 obtain ⟨n',m',e'⟩:=b
 obtain ⟨ha1,ha2,ha3⟩:=ha
 obtain ⟨hb1,hb2,hb3⟩:=hb
 simp only [DyA] at *
 apply exP
 rw [Zac G T J.C.ZhO]
 have hl:=Zaa m
 have hl':=Zaa m'
 by_cases h0 : ((dl m).length : Int) = 0
 ·have hm : m = 0:=Zaz.1 (by omega)
  repeat (first | (simp (maxSteps:=9^7) only [seval,evB,Zbb,dyB,h0]) | (simp (disch:=omega) only [dsB]))
  refine Post.some ⟨y,?_⟩
  simp [addD,hm]
 ·have hm : m≠0:=by rintro rfl; exact h0 (by rw [Zaq]; rfl)
  by_cases h1 : ((dl m').length : Int) = 0
  ·have hm' : m' = 0:=Zaz.1 (by omega)
   repeat (first | (simp (maxSteps:=9^7) only [seval,evB,Zbb,dyB,h0,h1]) | (simp (disch:=omega) only [dsB]))
   refine Post.some ⟨z,?_⟩
   simp [addD,hm,hm']
  ·have hm' : m'≠0:=by rintro rfl; exact h1 (by rw [Zaq]; rfl)
   obtain ⟨p,hp⟩ : ∃ p : Nat,(p : Int) = e - min e e':=⟨(e - min e e').toNat,by omega⟩
   obtain ⟨q,hq⟩ : ∃ q : Nat,(q : Int) = e' - min e e':=⟨(e' - min e e').toNat,by omega⟩
   have hp2 : (e - min e e').toNat = p:=by omega
   have hq2 : (e' - min e e').toNat = q:=by omega
   obtain ⟨z1,hz1⟩:=ZfQ J (z:=z) (a:=m) (n:=p) (by omega) (by omega)
   obtain ⟨z2,hz2⟩:=ZfQ J (z:=y) (a:=m') (n:=q) (by omega) (by omega)
   have hx:=ZhZ m p
   have hy:=ZhZ m' q
   have hf : addD ⟨n,m,e⟩ ⟨n',m',e'⟩ = if n = n' then mkD n (m * 2 ^ p + m' * 2 ^ q) (min e e') else if m' * 2 ^ q≤m * 2 ^ p then mkD n (m * 2 ^ p - m' * 2 ^ q) (min e e') else mkD n' (m' * 2 ^ q - m * 2 ^ p) (min e e'):=by
    simp only [addD,hm,hm',if_false,hp2,hq2]
   rw [hf]
   generalize m * 2 ^ p = X at *
   generalize m' * 2 ^ q = Y at *
   have hlx:=Zaa X
   have hly:=Zaa Y
   have eqb_bb : ∀ a b : Bool,eqbA false (.bool a) (.bool b) = some (.bool (decide (a = b))):=by intro a b; cases a <;> cases b <;> rfl
   have hcmp:=ZlH J (z:=z1) (y:=z2) (a:=X) (b:=Y) (by omega) (by omega)
   obtain ⟨z3,hz3⟩:=Zgv J (z:=z1) (y:=z2) (a:=X) (b:=Y) (by omega) (by omega)
   have hfin : ∀ (M : Int),M = min e e'→Post (kE G Zbb.res (evL G T Zbb.body (numE 0 [A3 n (D z (dl m)) e,A3 n' (D y (dl m')) e']) .nil)) fun r => ∃ z,r = DyA z (if n = n' then mkD n (X + Y) M else if Y≤X then mkD n (X - Y) M else mkD n' (Y - X) M):=by
    intro M hM
    have hs1:=ZkB X Y
    have hs1l:=Zaa (X + Y)
    have hs2:=ZaF (Nat.sub_le X Y)
    have hs2l:=Zaa (X - Y)
    have hs3:=ZaF (Nat.sub_le Y X)
    have hs3l:=Zaa (Y - X)
    by_cases h4 : n = n'
    ·obtain ⟨z4,hz4⟩:=Zbv J (n:=n') (z:=z3) (a:=X + Y) (e:=M) (by omega) (by omega)
     subst h4
     rw [if_pos rfl]
     by_cases h2 : e' < e
     ·have hM2 : M = e':=by omega
      have hpe : e - e' = p:=by omega
      have hqe : e' - e' = q:=by omega
      rw [hM2] at hz4 ⊢
      repeat (first | (simp (maxSteps:=9^7) only [seval,evB,Zbb,dyB,h0,h1,h2,hpe,hqe,hz1,hz2,eqb_bb,hz3,hz4,DyA]) | (simp (disch:=omega) only [dsB]))
      exact Post.some ⟨z4,rfl⟩
     ·have hM2 : M = e:=by omega
      have hpe : e - e = p:=by omega
      have hqe : e' - e = q:=by omega
      rw [hM2] at hz4 ⊢
      repeat (first | (simp (maxSteps:=9^7) only [seval,evB,Zbb,dyB,h0,h1,h2,hpe,hqe,hz1,hz2,eqb_bb,hz3,hz4,DyA]) | (simp (disch:=omega) only [dsB]))
      exact Post.some ⟨z4,rfl⟩
    ·rw [if_neg h4]
     by_cases h5 : Y≤X
     ·have hc : (0 : Int)≤cmpN X Y:=by
       unfold cmpN
       rw [if_neg (by omega)]
       split <;> decide
      obtain ⟨z5,hz5⟩:=ZjB J (z:=z1) (y:=z2) (a:=X) (b:=Y) (by omega) h5
      obtain ⟨z4,hz4⟩:=Zbv J (n:=n) (z:=z5) (a:=X - Y) (e:=M) (by omega) (by omega)
      rw [if_pos h5]
      by_cases h2 : e' < e
      ·have hM2 : M = e':=by omega
       have hpe : e - e' = p:=by omega
       have hqe : e' - e' = q:=by omega
       rw [hM2] at hz4 ⊢
       repeat (first | (simp (maxSteps:=9^7) only [seval,evB,Zbb,dyB,h0,h1,h2,hpe,hqe,hz1,hz2,eqb_bb,h4,hcmp,hc,hz5,hz4,DyA]) | (simp (disch:=omega) only [dsB]))
       exact Post.some ⟨z4,rfl⟩
      ·have hM2 : M = e:=by omega
       have hpe : e - e = p:=by omega
       have hqe : e' - e = q:=by omega
       rw [hM2] at hz4 ⊢
       repeat (first | (simp (maxSteps:=9^7) only [seval,evB,Zbb,dyB,h0,h1,h2,hpe,hqe,hz1,hz2,eqb_bb,h4,hcmp,hc,hz5,hz4,DyA]) | (simp (disch:=omega) only [dsB]))
       exact Post.some ⟨z4,rfl⟩
     ·have hc : ¬ (0 : Int)≤cmpN X Y:=by rw [Znp (by omega)]; decide
      obtain ⟨z5,hz5⟩:=ZjB J (z:=z2) (y:=z1) (a:=Y) (b:=X) (by omega) (by omega)
      obtain ⟨z4,hz4⟩:=Zbv J (n:=n') (z:=z5) (a:=Y - X) (e:=M) (by omega) (by omega)
      rw [if_neg h5]
      by_cases h2 : e' < e
      ·have hM2 : M = e':=by omega
       have hpe : e - e' = p:=by omega
       have hqe : e' - e' = q:=by omega
       rw [hM2] at hz4 ⊢
       repeat (first | (simp (maxSteps:=9^7) only [seval,evB,Zbb,dyB,h0,h1,h2,hpe,hqe,hz1,hz2,eqb_bb,h4,hcmp,hc,hz5,hz4,DyA]) | (simp (disch:=omega) only [dsB]))
       exact Post.some ⟨z4,rfl⟩
      ·have hM2 : M = e:=by omega
       have hpe : e - e = p:=by omega
       have hqe : e' - e = q:=by omega
       rw [hM2] at hz4 ⊢
       repeat (first | (simp (maxSteps:=9^7) only [seval,evB,Zbb,dyB,h0,h1,h2,hpe,hqe,hz1,hz2,eqb_bb,h4,hcmp,hc,hz5,hz4,DyA]) | (simp (disch:=omega) only [dsB]))
       exact Post.some ⟨z4,rfl⟩
   exact hfin _ rfl
theorem Bd.neg {d : Dy} {K : Nat} (h : Bd d K) : Bd (negD d) K:=by
 obtain ⟨h1,h2,h3⟩:=h
 unfold negD; split
 ·exact ⟨h1,h2,h3⟩
 ·exact ⟨h1,h2,h3⟩
theorem ZhP (J : Al G T g) {z y : Bool} {a b : Dy} (ha : Bd a 34359738368) (hb : Bd b 34359738368) :
  ∃ z',run G T 70 [DyA z a,DyA y b] = some (DyA z' (subD a b)):=by
 apply exP
 rw [Zac G T J.C.ZhP]
 obtain ⟨z1,hz1⟩:=ZhO J (z:=z) (y:=y) ha hb.neg
 have hz2:=Zoi J (z:=y) (d:=b)
 simp only [DyA,A3] at *
 repeat' (first|simp (maxSteps:=9^7) only [seval,exC,Zis,hz1,hz2]|simp (maxSteps:=9^7) (disch:=first|with_reducible assumption|omega) only [dxB]|(simp only [kdB];split)|(simp only [kvB];split))
 exact Post.some ⟨z1,rfl⟩
theorem ZdZ (J : Al G T g) {n z : Bool} {l : List Nat} (hd : Dg l) {e : Int} : run G T 22 [A3 n (D z l) e] = some (.int .i64 (if mayD n l e = false∨l.length = 0 then 0 else if n then -1 else 1)):=by
 rw [Zac G T J.C.ZdZ]
 have hm:=Zdl J n z hd e
 simp only [DyA,A3] at *
 cases h : mayD n l e
 all_goals
  rw [h] at hm
  by_cases h2 : l.length = 0
  all_goals
   cases n
   all_goals
    repeat' (first|simp (maxSteps:=9^7) only [seval,exC,Zia,hm]|simp (maxSteps:=9^7) (disch:=first|with_reducible assumption|omega) only [dxB]|(simp only [kdB];split)|(simp only [kvB];split))
    all_goals simp [h2]
theorem Zoh (J : Al G T g) {z y : Bool} {a b : Dy} (ha : Bd a 34359738368) (hb : Bd b 34359738368) :
  run G T 69 [DyA z a,DyA y b] = some (.int .i64 (cmpD a b)):=by
 rw [Zac G T J.C.Zoh]
 obtain ⟨z1,hz1⟩:=ZhP J (z:=z) (y:=y) ha hb
 have s1:=Zcf J (z:=z) (d:=a)
 have s2:=Zcf J (z:=y) (d:=b)
 have s3:=Zcf J (z:=z1) (d:=subD a b)
 have l1:=Zaa a.m
 have l2:=Zaa b.m
 obtain ⟨a1,a2,a3⟩:=ha
 obtain ⟨b1,b2,b3⟩:=hb
 have t1:=Zeh J (z:=z) (d:=a) (by omega) (by omega)
 have t2:=Zeh J (z:=y) (d:=b) (by omega) (by omega)
 simp only [DyA,A3] at *
 repeat' (first|simp (maxSteps:=9^7) only [seval,exC,Ziq,hz1,s1,s2,s3,t1,t2]|simp (maxSteps:=9^7) (disch:=first|with_reducible assumption|omega) only [dxB]|(simp only [kdB];split)|(simp only [kvB];split))
 all_goals simp_all [cmpD]
 all_goals omega
inductive Fm where
 | s | d
 deriving DecidableEq
def Fm.u : Fm→Int | .s => 1 | .d => 2
def Fm.fr : Fm→Nat | .s => 23 | .d => 52
def Fm.low : Fm→Int | .s => -149 | .d => -1074
def Fm.wide : Fm→Int | .s => 128 | .d => 1024
def Fm.most : Fm→Nat | .s => 255 | .d => 2047
def Fm.sg : Fm→Nat | .s => 2147483648 | .d => 9223372036854775808
theorem ZFm {f : Int} (h : f = 1∨f = 2) : ∃ F : Fm,f = F.u:=by
 rcases h with rfl | rfl
 ·exact ⟨.s,rfl⟩
 ·exact ⟨.d,rfl⟩
theorem ZlO (J : Al G T g) {f : Int} : run G T 27 [.int .u8 f] = some (.bool (decide (f = 1∨f = 2))):=by
 rw [Zac G T J.D.ZlO]
 repeat' (first|simp (maxSteps:=9^7) only [seval,exC,Zkc]|simp (maxSteps:=9^7) (disch:=first|with_reducible assumption|omega) only [dxB]|(simp only [kdB];split)|(simp only [kvB];split))
 all_goals simp_all
theorem ZdF (J : Al G T g) (F : Fm) : run G T 31 [.int .u8 F.u] = some (.int .i64 (F.fr : Int)):=by
 rw [Zac G T J.D.ZdF]
 cases F <;> (simp only [Fm.u,Fm.fr]; repeat' (first|simp (maxSteps:=9^7) only [seval,exC,ZgO]|simp (maxSteps:=9^7) (disch:=first|with_reducible assumption|omega) only [dxB]|(simp only [kdB];split)|(simp only [kvB];split)))
theorem ZjE (J : Al G T g) (F : Fm) : run G T 33 [.int .u8 F.u] = some (.int .i64 F.low):=by
 rw [Zac G T J.D.ZjE]
 cases F <;> (simp only [Fm.u,Fm.low]; repeat' (first|simp (maxSteps:=9^7) only [seval,exC,Ziv]|simp (maxSteps:=9^7) (disch:=first|with_reducible assumption|omega) only [dxB]|(simp only [kdB];split)|(simp only [kvB];split)))
theorem Zkn (J : Al G T g) (F : Fm) : run G T 35 [.int .u8 F.u] = some (.int .i64 F.wide):=by
 rw [Zac G T J.D.Zkn]
 cases F <;> (simp only [Fm.u,Fm.wide]; repeat' (first|simp (maxSteps:=9^7) only [seval,exC,ZgS]|simp (maxSteps:=9^7) (disch:=first|with_reducible assumption|omega) only [dxB]|(simp only [kdB];split)|(simp only [kvB];split)))
theorem ZfZ (J : Al G T g) (F : Fm) : run G T 63 [.int .u8 F.u] = some (.int .i64 (F.most : Int)):=by
 rw [Zac G T J.D.ZfZ]
 cases F <;> (simp only [Fm.u,Fm.most]; repeat' (first|simp (maxSteps:=9^7) only [seval,exC,ZgQ]|simp (maxSteps:=9^7) (disch:=first|with_reducible assumption|omega) only [dxB]|(simp only [kdB];split)|(simp only [kvB];split)))
theorem Zga (J : Al G T g) (F : Fm) : run G T 73 [.int .u8 F.u] = some (.int .u64 (F.sg : Int)):=by
 rw [Zac G T J.D.Zga]
 cases F <;> (simp only [Fm.u,Fm.sg]; repeat' (first|simp (maxSteps:=9^7) only [seval,exC,ZgR]|simp (maxSteps:=9^7) (disch:=first|with_reducible assumption|omega) only [dxB]|(simp only [kdB];split)|(simp only [kvB];split)))
def Fm.sgn (F : Fm) (n : Bool) : Nat:=if n then F.sg else 0
def fldA (n : Bool) (x w : Int) : AV:=.agg [.bool n,.int .i64 x,.int .u64 w]
theorem ZfY (J : Al G T g) (F : Fm) {n : Bool} {x w : Nat} (hx : x≤F.most) (hw : w < 2 ^ F.fr∨x = 0∧w < F.sg) :
  run G T 62 [.int .u8 F.u,fldA n x w] = some (.int .u64 ((x * 2 ^ F.fr + w + F.sgn n : Nat) : Int)):=by
 rw [Zac G T J.D.ZfY]
 have h1:=ZdF (G:=G) J F
 have h2:=Zga (G:=G) J F
 cases F <;> cases n <;> (
  simp only [Fm.u,Fm.fr,Fm.sg,Fm.most,fldA,Fm.sgn] at *
  repeat' (first|simp (maxSteps:=9^7) only [seval,exC,ZgP,h1,h2]|simp (maxSteps:=9^7) (disch:=first|with_reducible assumption|omega) only [dxB]|(simp only [kdB];split)|(simp only [kvB];split))
  all_goals (refine Zks ?_; omega))
def Fm.inf (F : Fm) (n : Bool) : Nat:=F.most * 2 ^ F.fr + F.sgn n
theorem ZlN (J : Al G T g) (F : Fm) {n : Bool} : run G T 30 [.int .u8 F.u,.bool n] = some (.int .u64 ((F.inf n : Nat) : Int)):=by
 rw [Zac G T J.D.ZlN]
 have h1:=ZfZ (G:=G) J F
 have h2:=ZfY (G:=G) J F (n:=n) (x:=F.most) (w:=0) (Nat.le_refl _) (Or.inl (Nat.two_pow_pos _))
 simp only [fldA,cast0] at h2
 repeat' (first|simp (maxSteps:=9^7) only [seval,exC,Ziu,h1,h2]|simp (maxSteps:=9^7) (disch:=first|with_reducible assumption|omega) only [dxB]|(simp only [kdB];split)|(simp only [kvB];split))
 all_goals simp [Fm.inf]
theorem ZjF (J : Al G T g) (F : Fm) {n : Bool} {w : Nat} : run G T 38 [.int .u8 F.u,.int .u64 (w : Int),.bool n] = some (.int .u64 ((w % F.sg + F.sgn n : Nat) : Int)):=by
 rw [Zac G T J.D.ZjF]
 have h2:=Zga (G:=G) J F
 cases F <;> cases n <;> (
  simp only [Fm.u,Fm.sg,Fm.sgn] at *
  repeat' (first|simp (maxSteps:=9^7) only [seval,exC,ZeO,h2]|simp (maxSteps:=9^7) (disch:=first|with_reducible assumption|omega) only [dxB]|(simp only [kdB];split)|(simp only [kvB];split))
  all_goals (refine Zks ?_; omega))
def shA (F : Fm) : AV:=.agg [.int .i64 (F.fr : Int),.int .i64 (F.most : Int),.int .u64 (F.sg : Int)]
theorem or64z {x : Int} (h : 0≤x∧x < 18446744073709551616) : orI .u64 0 x = x:=by
 obtain ⟨n,rfl⟩:=Int.eq_ofNat_of_zero_le h.1
 have:=or64 (a:=0) (b:=n) (by decide) (by omega)
 rw [cast0] at this; rw [this]; simp
theorem ZxU {x : Int} (h : 0≤x∧x < 2147483648) : orI .u64 x 2147483648 = x + 2147483648:=by
 obtain ⟨n,rfl⟩:=Int.eq_ofNat_of_zero_le h.1
 have:=or64 (a:=n) (b:=2147483648) (by omega) (by decide)
 rw [Int.cast_ofNat_Int] at this; rw [this]
 have e:=ZlD (c:=n) (x:=1) (s:=31) (by omega)
 rw [Nat.one_mul] at e
 rw [show (2147483648 : Nat) = 2 ^ 31 from rfl,e]; omega
theorem ZxV {x : Int} (h : 0≤x∧x < 9223372036854775808) : orI .u64 x 9223372036854775808 = x + 9223372036854775808:=by
 obtain ⟨n,rfl⟩:=Int.eq_ofNat_of_zero_le h.1
 have:=or64 (a:=n) (b:=9223372036854775808) (by omega) (by decide)
 rw [Int.cast_ofNat_Int] at this; rw [this]
 have e:=ZlD (c:=n) (x:=1) (s:=63) (by omega)
 rw [Nat.one_mul] at e
 rw [show (9223372036854775808 : Nat) = 2 ^ 63 from rfl,e]; omega
theorem Zhh (J : Al G T g) (F : Fm) : run G T 115 [.int .u8 F.u] = some (.tup [shA F,.bool true]):=by
 rw [Zac G T J.D.Zhh]
 cases F <;> (simp only [shA,Fm.u,Fm.fr,Fm.most,Fm.sg,Int.cast_ofNat_Int]; repeat' (first|simp (maxSteps:=9^7) only [seval,exC,ZeU]|simp (maxSteps:=9^7) (disch:=first|with_reducible assumption|omega) only [dxB]|(simp only [kdB];split)|(simp only [kvB];split)))
theorem ZmB (J : Al G T g) (F : Fm) : run G T 95 [.int .u8 F.u,.nil] = some (.tup [shA F,.int .i64 0]):=by
 rw [Zac G T J.D.word_open]
 have h1:=Zhh (G:=G) J F
 have hl : ∀ (e : Env) (h : Heap),evL G T Zce e h = kS G T (evL G T ZbH (keepE [4,6,18,19,20] e) h) Zce:=fun e h => Zaf G T (c:=Zce) rfl e h
 simp only [shA] at *
 repeat' (first|simp (maxSteps:=9^7) only [seval,exC,Zdq,h1,hl,ZbH]|simp (maxSteps:=9^7) (disch:=first|with_reducible assumption|omega) only [dxB]|(simp only [kdB];split)|(simp only [kvB];split))
theorem Zmf (J : Al G T g) (F : Fm) : run G T 60 [shA F] = some (.int .u64 ((F.most * 2 ^ F.fr : Nat) : Int)):=by
 rw [Zac G T J.D.word_shape_inf]
 cases F <;> (simp only [shA,Fm.u,Fm.fr,Fm.most,Fm.sg,Int.cast_ofNat_Int]; repeat' (first|simp (maxSteps:=9^7) only [seval,exC,Zdj]|simp (maxSteps:=9^7) (disch:=first|with_reducible assumption|omega) only [dxB]|(simp only [kdB];split)|(simp only [kvB];split)))
theorem ZuY (J : Al G T g) (F : Fm) : run G T 96 [shA F] = some (.int .i64 F.low):=by
 rw [Zac G T J.D.word_shape_low]
 cases F <;> (simp only [shA,Fm.u,Fm.fr,Fm.most,Fm.sg,Fm.low,Int.cast_ofNat_Int]; repeat' (first|simp (maxSteps:=9^7) only [seval,exC,Zdk]|simp (maxSteps:=9^7) (disch:=first|with_reducible assumption|omega) only [dxB]|(simp only [kdB];split)|(simp only [kvB];split)))
theorem ZvE (J : Al G T g) (F : Fm) {n : Bool} {w : Nat} (hw : w < F.sg) :
  run G T 97 [shA F,fldA n 0 w] = some (.int .u64 ((w + F.sgn n : Nat) : Int)):=by
 rw [Zac G T J.D.word_shape_join]
 cases F <;> cases n <;> (
  simp only [shA,Fm.u,Fm.fr,Fm.sg,Fm.most,fldA,Fm.sgn,Int.cast_ofNat_Int] at *
  repeat' (first|simp (maxSteps:=9^7) only [seval,exC,ZcJ ]|simp (maxSteps:=9^7) (disch:=first|with_reducible assumption|omega) only [dxB,or64z,ZxU,ZxV]|(simp only [kdB];split)|(simp only [kvB];split))
  all_goals (refine Zks ?_; try simp))
theorem ZvF (J : Al G T g) (F : Fm) : run G T 98 [shA F] = some (.int .u64 0):=by
 rw [Zac G T J.D.word_Zero_1]
 simp only [shA]; repeat' (first|simp (maxSteps:=9^7) only [seval,exC,ZfN]|simp (maxSteps:=9^7) (disch:=first|with_reducible assumption|omega) only [dxB]|(simp only [kdB];split)|(simp only [kvB];split))
theorem ZoK (J : Al G T g) (F : Fm) : run G T 59 [shA F] = some (.int .u64 ((F.most * 2 ^ F.fr - 1 : Nat) : Int)):=by
 rw [Zac G T J.D.word_Greatest_1]
 have h:=Zmf (G:=G) J F
 cases F <;> (simp only [shA,Fm.u,Fm.fr,Fm.most,Fm.sg,Int.cast_ofNat_Int,Nat.reducePow,Nat.reduceMul] at *; repeat' (first|simp (maxSteps:=9^7) only [seval,exC,ZcI,h]|simp (maxSteps:=9^7) (disch:=first|with_reducible assumption|omega) only [dxB]|(simp only [kdB];split)|(simp only [kvB];split)))
theorem Zgb (J : Al G T g) (F : Fm) {n : Bool} {k x : Nat} (hk : run G T k [shA F] = some (.int .u64 (x : Int))) (hx : x < F.sg) :
  run G T 58 [.int .u8 F.u,.bool n,.fn k []] = some (.tup [.int .u64 ((x + F.sgn n : Nat) : Int),.int .i64 0]):=by
 rw [Zac G T J.D.Zgb]
 have h1:=ZmB (G:=G) J F
 cases F <;> cases n <;> (
  simp only [shA,Fm.u,Fm.fr,Fm.sg,Fm.most,Fm.sgn,Int.cast_ofNat_Int] at *
  repeat' (first|simp (maxSteps:=9^7) only [seval,exC,ZgY,h1,hk ]|simp (maxSteps:=9^7) (disch:=first|with_reducible assumption|omega) only [dxB,ZxU,ZxV]|(simp only [kdB];split)|(simp only [kvB];split))
  all_goals (refine congrArg (fun x : Int => some (AV.tup [.int .u64 x,.int .i64 0])) ?_; try simp))
theorem Zme (J : Al G T g) (F : Fm) {n : Bool} : run G T 57 [.int .u8 F.u,.bool n] = some (.tup [.int .u64 ((F.sgn n : Nat) : Int),.int .i64 0]):=by
 rw [Zac G T J.D.Zme]
 have h:=Zgb (G:=G) J F (n:=n) (k:=98) (x:=0) (ZvF J F) (by cases F <;> decide)
 rw [Nat.zero_add] at h
 repeat' (first|simp (maxSteps:=9^7) only [seval,exC,Ziz,h]|simp (maxSteps:=9^7) (disch:=first|with_reducible assumption|omega) only [dxB]|(simp only [kdB];split)|(simp only [kvB];split))
theorem ZiW (J : Al G T g) (F : Fm) {n : Bool} : run G T 26 [.int .u8 F.u,.bool n] = some (.tup [.int .u64 ((F.inf n : Nat) : Int),.int .i64 0]):=by
 rw [Zac G T J.D.ZiW]
 have h:=Zgb (G:=G) J F (n:=n) (k:=60) (Zmf J F) (by cases F <;> decide)
 repeat' (first|simp (maxSteps:=9^7) only [seval,exC,Zkd,h]|simp (maxSteps:=9^7) (disch:=first|with_reducible assumption|omega) only [dxB]|(simp only [kdB];split)|(simp only [kvB];split))
 rfl
theorem ZiV (J : Al G T g) (F : Fm) {n : Bool} : run G T 25 [.int .u8 F.u,.bool n] = some (.tup [.int .u64 ((F.inf n - 1 : Nat) : Int),.int .i64 0]):=by
 rw [Zac G T J.D.ZiV]
 have h:=Zgb (G:=G) J F (n:=n) (k:=59) (ZoK J F) (by cases F <;> decide)
 repeat' (first|simp (maxSteps:=9^7) only [seval,exC,ZdV,h]|simp (maxSteps:=9^7) (disch:=first|with_reducible assumption|omega) only [dxB]|(simp only [kdB];split)|(simp only [kvB];split))
 cases F <;> cases n <;> rfl
def Fm.unit (F : Fm) (d : Dy) : Int:=max (d.e + blen d.m - F.fr - 1) F.low
def Fm.fits (F : Fm) (d : Dy) : Prop:=d.m≠0∧blen d.m≤F.fr + 1∧F.low≤d.e∧d.e + blen d.m≤F.wide
def Fm.enc (F : Fm) (n : Nat) (u : Int) : Nat:=(u - F.low).toNat * 2 ^ F.fr + n
theorem ZpL {F : Fm} {d : Dy} (h : F.fits d) : F.unit d≤d.e∧F.low≤F.unit d∧blen (d.m * 2 ^ (d.e - F.unit d).toNat)≤F.fr + 1∧(F.unit d = F.low∨2 ^ F.fr≤d.m * 2 ^ (d.e - F.unit d).toNat)∧(F.unit d - F.low).toNat + 1 < F.most:=by
 obtain ⟨h0,h1,h2,h3⟩:=h
 have e1 : F.unit d≤d.e:=by unfold Fm.unit; omega
 have e2 : F.low≤F.unit d:=by unfold Fm.unit; omega
 have hb:=Zap h0 (d.e - F.unit d).toNat
 refine ⟨e1,e2,?_,?_,?_⟩
 ·rw [hb]; unfold Fm.unit at *; omega
 ·by_cases hu : F.unit d = F.low
  ·exact Or.inl hu
  ·right
   apply ZaA.1
   rw [hb]; unfold Fm.unit at *; omega
 ·cases F <;> simp only [Fm.unit,Fm.fr,Fm.low,Fm.wide,Fm.most] at * <;> omega
theorem Ztm {F : Fm} {d : Dy} (h : F.fits d) : F.enc (d.m * 2 ^ (d.e - F.unit d).toNat) (F.unit d) < F.most * 2 ^ F.fr:=by
 obtain ⟨h1,h2,h3,h4,h5⟩:=ZpL h
 have:=Zae.1 h3
 rw [Nat.pow_succ] at this
 unfold Fm.enc
 have h6 : ((F.unit d - F.low).toNat + 2) * 2 ^ F.fr≤F.most * 2 ^ F.fr:=Nat.mul_le_mul_right _ (by omega)
 rw [Nat.add_mul] at h6
 omega
theorem ZFP {k : Int} {n : Nat} (h : k.toNat≤n) : min k.toNat n = k.toNat:=Nat.min_eq_left h
theorem ZDO {m : Nat} {k : Int} (hk : k.toNat≤64) (h : m * 2 ^ k.toNat < 18446744073709551616) : IntKind.u64.wrap ((m : Int) * 2 ^ (min k.toNat 64)) = ((m * 2 ^ k.toNat : Nat) : Int):=by
 rw [ZFP hk,Zbk,← Int.natCast_mul,Zbx]
 omega
theorem Zqz (J : Al G T g) (F : Fm) {z : Bool} {d : Dy} (hm : mayD d.n (dl d.m) d.e = true) (hf : F.fits d) :
  run G T 56 [.int .u8 F.u,DyA z d] = some (.tup [.int .u64 ((F.enc (d.m * 2 ^ (d.e - F.unit d).toNat) (F.unit d) + F.sgn d.n : Nat) : Int),.int .i64 0]):=by
 rw [Zac G T J.D.Zqz]
 have hl:=ZpL hf
 have he:=Ztm hf
 obtain ⟨n,m,e⟩:=d
 obtain ⟨hf0,hf1,hf2,hf3⟩:=hf
 obtain ⟨hl1,hl2,hl3,hl4,hl5⟩:=hl
 simp only at *
 have hmb:=Zae.1 hf1
 have h1:=ZmB (G:=G) J F
 have h2:=Zdl (G:=G) J n z (ZaC m) e
 rw [hm] at h2
 have m64 : m < 18446744073709551616:=Nat.lt_of_lt_of_le hmb (by cases F <;> decide)
 have h3:=ZnY J (z:=z) m64
 have h4:=ZfU J m64
 have h5:=ZuY (G:=G) J F
 have hx:=Zae.1 hl3
 have hb64 : F.most * 2 ^ F.fr≤F.sg:=by cases F <;> decide
 have h6:=ZvE (G:=G) J F (n:=n) (w:=F.enc (m * 2 ^ (e - F.unit ⟨n,m,e⟩).toNat) (F.unit ⟨n,m,e⟩)) (by omega)
 have hu : max (e + blen m - F.fr - 1) F.low = F.unit ⟨n,m,e⟩:=rfl
 have hw1 : e≤1024:=by cases F <;> simp only [Fm.wide] at hf3 <;> omega
 generalize hU : F.unit ⟨n,m,e⟩ = u at *
 have hX : m * 2 ^ (e - u).toNat < 18446744073709551616:=Nat.lt_of_lt_of_le hx (by cases F <;> decide)
 have hs:=fun (hk : (e - u).toNat≤64) => ZDO hk hX
 generalize m * 2 ^ (e - u).toNat = X at *
 have hne : ¬ (m : Int) = 0:=by omega
 cases F
 ·simp only [Fm.u,Fm.fr,Fm.sg,Fm.most,Fm.low,Fm.wide,Fm.enc,shA,fldA,DyA,A3,Int.cast_ofNat_Int,Nat.reducePow] at *
  have hs':=hs (by omega)
  rw [Zbx] at hs'
  have hW : ((u - -149) % 18446744073709551616 * 8388608 % 18446744073709551616 + X) % 18446744073709551616 = (((u - -149).toNat * 8388608 + X : Nat) : Int):=by omega
  repeat' (first|simp (maxSteps:=9^7) only [seval,exC,ZhF,h1,h2,h3,h4,h5,hu,hs',hW,h6 ]|simp (maxSteps:=9^7) (disch:=first|with_reducible assumption|omega) only [dxB,hu]|(simp only [kdB];split)|(simp only [kvB];split))
 ·simp only [Fm.u,Fm.fr,Fm.sg,Fm.most,Fm.low,Fm.wide,Fm.enc,shA,fldA,DyA,A3,Int.cast_ofNat_Int,Nat.reducePow] at *
  have hs':=hs (by omega)
  rw [Zbx] at hs'
  have hW : ((u - -1074) % 18446744073709551616 * 4503599627370496 % 18446744073709551616 + X) % 18446744073709551616 = (((u - -1074).toNat * 4503599627370496 + X : Nat) : Int):=by omega
  repeat' (first|simp (maxSteps:=9^7) only [seval,exC,ZhF,h1,h2,h3,h4,h5,hu,hs',hW,h6 ]|simp (maxSteps:=9^7) (disch:=first|with_reducible assumption|omega) only [dxB,hu]|(simp only [kdB];split)|(simp only [kvB];split))
theorem ZrR (J : Al G T g) (F : Fm) {z : Bool} : run G T 56 [.int .u8 F.u,DyA z ⟨false,0,0⟩] = some (.tup [.int .u64 0,.int .i64 0]):=by
 rw [Zac G T J.D.Zqz]
 have h1:=ZmB (G:=G) J F
 have h2:=Zdl (G:=G) J false z (ZaC 0) 0
 rw [show mayD false (dl 0) 0 = true by rw [Zaq]; rfl] at h2
 have h3:=ZnY J (z:=z) (a:=0) (by decide)
 have h4:=ZfU J (x:=0) (by decide)
 rw [Zal] at h4
 cases F <;> (
  simp only [shA,DyA,A3,cast0,Fm.u,Fm.fr,Fm.sg,Fm.most,Int.cast_ofNat_Int] at *
  repeat' (first|simp (maxSteps:=9^7) only [seval,exC,ZhF,h1,h2,h3,h4]|simp (maxSteps:=9^7) (disch:=first|with_reducible assumption|omega) only [dxB]|(simp only [kdB];split)|(simp only [kvB];split)))
theorem ZER {X : Nat} (h : X < 18446744073709551616) (h1 : ¬ (1 : Int) < (dl X).length) : dg (dl X) 0 = X:=by
 have h2 : (dl X).length≤1:=by omega
 have h3:=(ZbU (n:=X) (k:=1)).1 h2
 rw [Zns (ZaC X),ZaN]; simp at h3 ⊢; omega
theorem ZET {X : Nat} (h : X < 18446744073709551616) : X = dg (dl X) 0 + dg (dl X) 1 * 4294967296:=by
 rw [Zns (ZaC X),Zns (ZaC X),ZaN]; simp; omega
set_option maxHeartbeats 2000000 in
theorem ZmW (J : Al G T g) (F : Fm) {z : Bool} {d : Dy} (hf : F.fits d) :
  run G T 36 [.int .u8 F.u,DyA z d] = some (.tup [.int .u64 ((F.enc (d.m * 2 ^ (d.e - F.unit d).toNat) (F.unit d) + F.sgn d.n : Nat) : Int),.bool true]):=by
 rw [Zac G T J.D.ZmW]
 have hl:=ZpL hf
 have he:=Ztm hf
 obtain ⟨n,m,e⟩:=d
 obtain ⟨hf0,hf1,hf2,hf3⟩:=hf
 obtain ⟨hl1,hl2,hl3,hl4,hl5⟩:=hl
 simp only at *
 have hmb:=Zae.1 hf1
 have hfr : F.fr≤52:=by cases F <;> decide
 have hlo : -1074≤F.low:=by cases F <;> decide
 have hw1 : e≤1024:=by cases F <;> simp only [Fm.wide] at hf3 <;> omega
 have hdl:=Zaa m
 have h1:=Zcf J (z:=z) (d:=⟨n,m,e⟩)
 have hs : ¬ sgnD ⟨n,m,e⟩ = 0:=by simp only [sgnD,if_neg hf0]; split <;> decide
 have h2:=Zeh J (z:=z) (d:=⟨n,m,e⟩) (by simp only; omega) (by simp only; omega)
 simp only [topD,if_neg hf0] at h2
 have h3:=Zkn (G:=G) J F
 have h4:=ZjE (G:=G) J F
 have h5:=ZdF (G:=G) J F
 have h6:=Zeg J (z:=z) (a:=m) (by omega)
 obtain ⟨z1,h7⟩:=ZfQ J (z:=z) (a:=m) (n:=(e - F.unit ⟨n,m,e⟩).toNat) (by omega) (by omega)
 have hu : F.unit ⟨n,m,e⟩ = max (e + blen m - F.fr - 1) F.low:=rfl
 generalize hU : F.unit ⟨n,m,e⟩ = u at *
 have hx:=Zae.1 hl3
 have hX : m * 2 ^ (e - u).toNat < 18446744073709551616:=Nat.lt_of_lt_of_le hx (by cases F <;> decide)
 have hX0 : 0 < m * 2 ^ (e - u).toNat:=Nat.mul_pos (by omega) (Nat.two_pow_pos _)
 rw [Int.toNat_of_nonneg (by omega)] at h7
 generalize m * 2 ^ (e - u).toNat = X at *
 have hj:=@ZfY G T g J F n
 have hlen:=@Zaz X
 have d0:=ZER hX
 have d1:=ZET hX
 have g0:=(ZaC X).dg 0
 have g1:=(ZaC X).dg 1
 have hc : ¬ (1 : Int) < (dl X).length→dg (dl X) 1 = 0:=fun h => ZiA (by omega)
 cases F
 ·simp only [Fm.u,Fm.fr,Fm.sg,Fm.most,Fm.low,Fm.wide,Fm.enc,fldA,DyA,A3,Int.cast_ofNat_Int,Nat.reducePow] at *
  have m0 : ((dg (dl X) 0 : Nat) : Int) % 18446744073709551616 = dg (dl X) 0:=by omega
  have m1 : ((dg (dl X) 1 : Nat) : Int) % 18446744073709551616 = dg (dl X) 1:=by omega
  have m2 : (((dg (dl X) 0 : Nat) : Int) + ((dg (dl X) 1 : Nat) : Int) * 4294967296 % 18446744073709551616) % 18446744073709551616 = X:=by omega
  by_cases hp : 8388608≤X
  ·have q1 : ((X : Int) - 8388608) % 18446744073709551616 = ((X - 8388608 : Nat) : Int):=by omega
   by_cases hA : e + blen m - 23 - 1 < -149
   ·obtain rfl : u = -149:=by omega
    have j3:=@hj 1 (X - 8388608) (by decide) (Or.inl (by omega))
    rw [show ((1 : Nat) : Int) = 1 from rfl] at j3
    repeat' (first|simp (maxSteps:=9^7) only [seval,exC,Zbz,h1,hs,h2,h3,h4,h5,h6,h7,m0,m1,m2,q1,j3 ]|simp (maxSteps:=9^7) (disch:=first|with_reducible assumption|omega) only [dxB,d0]|(simp only [kdB];split)|(simp only [kvB];split))
    all_goals (refine Zft ?_; omega)
   ·have hu' : e + blen m - 23 - 1 = u:=by omega
    have q2 : u - -149 + 1 = (((u + 150).toNat : Nat) : Int):=by omega
    have j3:=@hj (u + 150).toNat (X - 8388608) (by omega) (Or.inl (by omega))
    repeat' (first|simp (maxSteps:=9^7) only [seval,exC,Zbz,h1,hs,h2,h3,h4,h5,h6,h7,hu',m0,m1,m2,q1,q2,j3 ]|simp (maxSteps:=9^7) (disch:=first|with_reducible assumption|omega) only [dxB,d0]|(simp only [kdB];split)|(simp only [kvB];split))
    all_goals (refine Zft ?_; omega)
  ·have j3:=@hj 0 X (by decide) (Or.inl (by omega))
   rw [cast0] at j3
   obtain rfl : u = -149:=by omega
   by_cases hA : e + blen m - 23 - 1 < -149
   ·repeat' (first|simp (maxSteps:=9^7) only [seval,exC,Zbz,h1,hs,h2,h3,h4,h5,h6,h7,m0,m1,m2,j3 ]|simp (maxSteps:=9^7) (disch:=first|with_reducible assumption|omega) only [dxB,d0]|(simp only [kdB];split)|(simp only [kvB];split))
    all_goals (refine Zft ?_; omega)
   ·have hu' : e + blen m - 23 - 1 = -149:=by omega
    repeat' (first|simp (maxSteps:=9^7) only [seval,exC,Zbz,h1,hs,h2,h3,h4,h5,h6,h7,hu',m0,m1,m2,j3 ]|simp (maxSteps:=9^7) (disch:=first|with_reducible assumption|omega) only [dxB,d0]|(simp only [kdB];split)|(simp only [kvB];split))
    all_goals (refine Zft ?_; omega)
 ·simp only [Fm.u,Fm.fr,Fm.sg,Fm.most,Fm.low,Fm.wide,Fm.enc,fldA,DyA,A3,Int.cast_ofNat_Int,Nat.reducePow] at *
  have m0 : ((dg (dl X) 0 : Nat) : Int) % 18446744073709551616 = dg (dl X) 0:=by omega
  have m1 : ((dg (dl X) 1 : Nat) : Int) % 18446744073709551616 = dg (dl X) 1:=by omega
  have m2 : (((dg (dl X) 0 : Nat) : Int) + ((dg (dl X) 1 : Nat) : Int) * 4294967296 % 18446744073709551616) % 18446744073709551616 = X:=by omega
  by_cases hp : 4503599627370496≤X
  ·have q1 : ((X : Int) - 4503599627370496) % 18446744073709551616 = ((X - 4503599627370496 : Nat) : Int):=by omega
   by_cases hA : e + blen m - 52 - 1 < -1074
   ·obtain rfl : u = -1074:=by omega
    have j3:=@hj 1 (X - 4503599627370496) (by decide) (Or.inl (by omega))
    rw [show ((1 : Nat) : Int) = 1 from rfl] at j3
    repeat' (first|simp (maxSteps:=9^7) only [seval,exC,Zbz,h1,hs,h2,h3,h4,h5,h6,h7,m0,m1,m2,q1,j3 ]|simp (maxSteps:=9^7) (disch:=first|with_reducible assumption|omega) only [dxB,d0]|(simp only [kdB];split)|(simp only [kvB];split))
    all_goals (refine Zft ?_; omega)
   ·have hu' : e + blen m - 52 - 1 = u:=by omega
    have q2 : u - -1074 + 1 = (((u + 1075).toNat : Nat) : Int):=by omega
    have j3:=@hj (u + 1075).toNat (X - 4503599627370496) (by omega) (Or.inl (by omega))
    repeat' (first|simp (maxSteps:=9^7) only [seval,exC,Zbz,h1,hs,h2,h3,h4,h5,h6,h7,hu',m0,m1,m2,q1,q2,j3 ]|simp (maxSteps:=9^7) (disch:=first|with_reducible assumption|omega) only [dxB,d0]|(simp only [kdB];split)|(simp only [kvB];split))
    all_goals (refine Zft ?_; omega)
  ·have j3:=@hj 0 X (by decide) (Or.inl (by omega))
   rw [cast0] at j3
   obtain rfl : u = -1074:=by omega
   by_cases hA : e + blen m - 52 - 1 < -1074
   ·repeat' (first|simp (maxSteps:=9^7) only [seval,exC,Zbz,h1,hs,h2,h3,h4,h5,h6,h7,m0,m1,m2,j3 ]|simp (maxSteps:=9^7) (disch:=first|with_reducible assumption|omega) only [dxB,d0]|(simp only [kdB];split)|(simp only [kvB];split))
    all_goals (refine Zft ?_; omega)
   ·have hu' : e + blen m - 52 - 1 = -1074:=by omega
    repeat' (first|simp (maxSteps:=9^7) only [seval,exC,Zbz,h1,hs,h2,h3,h4,h5,h6,h7,hu',m0,m1,m2,j3 ]|simp (maxSteps:=9^7) (disch:=first|with_reducible assumption|omega) only [dxB,d0]|(simp only [kdB];split)|(simp only [kvB];split))
    all_goals (refine Zft ?_; omega)
def upB (md : Int) (neg odd half more : Bool) : Bool :=
 if md = 1 then half && (more || odd) else if md = 2 then half else if md = 4 then !neg && (half || more) else if md = 5 then neg && (half || more) else false
def halfN (M k : Nat) : Bool:=decide (M / 2 ^ (k - 1) % 2 = 1)
def moreN (M : Nat) (s : Bool) (k : Nat) : Bool:=s || decide (M % 2 ^ (k - 1)≠0)
def rdN (md : Int) (neg : Bool) (M : Nat) (s : Bool) (k : Nat) : Nat × Bool :=
 (M / 2 ^ k + (upB md neg (decide (M / 2 ^ k % 2 = 1)) (halfN M k) (moreN M s k)).toNat,!halfN M k && !moreN M s k)
def rnd (md : Int) (neg : Bool) (M : Nat) (E u : Int) : Nat × Bool :=
 if u≤E then (M * 2 ^ (E - u).toNat,true) else rdN md neg M false (u - E).toNat
theorem ZkK (M j k : Nat) : (M % 2 ^ (j + k) = 0)↔(M % 2 ^ j = 0∧M / 2 ^ j % 2 ^ k = 0):=by
 rw [Nat.pow_add,Nat.mod_mul]
 have hp : 0 < 2 ^ j:=Nat.two_pow_pos j
 constructor
 ·intro h
  have h1 : M % 2 ^ j = 0:=by omega
  refine ⟨h1,?_⟩
  rw [h1,Nat.zero_add] at h
  rcases Nat.mul_eq_zero.1 h with h2 | h2
  ·omega
  ·exact h2
 ·rintro ⟨h1,h2⟩; rw [h1,h2]; rfl
theorem Zoe (md : Int) (neg : Bool) (M : Nat) (s : Bool) (j k : Nat) (hk : 0 < k) :
  rdN md neg (M / 2 ^ j) (s || decide (M % 2 ^ j≠0)) k = rdN md neg M s (j + k):=by
 obtain ⟨i,rfl⟩ : ∃ i,k = i + 1:=⟨k - 1,by omega⟩
 have e1 : ∀ i,M / 2 ^ j / 2 ^ i = M / 2 ^ (j + i):=fun i => by rw [Nat.div_div_eq_div_mul,← Nat.pow_add]
 have e2 : halfN (M / 2 ^ j) (i + 1) = halfN M (j + (i + 1)):=by
  simp only [halfN,e1]
  rw [show j + (i + 1 - 1) = j + (i + 1) - 1 by omega]
 have e3 : moreN (M / 2 ^ j) (s || decide (M % 2 ^ j≠0)) (i + 1) = moreN M s (j + (i + 1)):=by
  simp only [moreN]
  rw [show j + (i + 1) - 1 = j + i by omega,show i + 1 - 1 = i by omega,Bool.or_assoc]
  congr 1
  have:=ZkK M j i
  rw [Bool.eq_iff_iff]
  simp only [Bool.or_eq_true,decide_eq_true_eq,ne_eq,this]
  by_cases h : M % 2 ^ j = 0 <;> simp [h]
 simp only [rdN,e1,e2,e3]
theorem ZiB {M j k : Nat} (h : k≤j) : M * 2 ^ j / 2 ^ k = M * 2 ^ (j - k):=by
 obtain ⟨i,rfl⟩ : ∃ i,j = k + i:=⟨j - k,by omega⟩
 rw [Nat.pow_add,Nat.mul_comm (2 ^ k),← Nat.mul_assoc,Nat.mul_div_cancel _ (Nat.two_pow_pos k),show k + i - k = i by omega]
theorem ZkL {M j k : Nat} (h : k≤j) : M * 2 ^ j % 2 ^ k = 0:=by
 obtain ⟨i,rfl⟩ : ∃ i,j = k + i:=⟨j - k,by omega⟩
 rw [Nat.pow_add,Nat.mul_comm (2 ^ k),← Nat.mul_assoc]; exact Nat.mul_mod_left ..
theorem ZgZ {M j k : Nat} (h : j≤k) : M * 2 ^ j / 2 ^ k = M / 2 ^ (k - j):=by
 obtain ⟨i,rfl⟩ : ∃ i,k = j + i:=⟨k - j,by omega⟩
 rw [Nat.pow_add,← Nat.div_div_eq_div_mul,Nat.mul_div_cancel _ (Nat.two_pow_pos j),show j + i - j = i by omega]
theorem Zjv {M j k : Nat} (h : j≤k) : M * 2 ^ j % 2 ^ k = M % 2 ^ (k - j) * 2 ^ j:=by
 obtain ⟨i,rfl⟩ : ∃ i,k = j + i:=⟨k - j,by omega⟩
 rw [Nat.pow_add,Nat.mul_comm (2 ^ j),Nat.mul_mod_mul_right,show j + i - j = i by omega]
theorem ZBG (md : Int) (neg : Bool) (M j k : Nat) (hk : 0 < k) :
  rdN md neg (M * 2 ^ j) false k = if k≤j then (M * 2 ^ (j - k),true) else rdN md neg M false (k - j):=by
 obtain ⟨i,rfl⟩ : ∃ i,k = i + 1:=⟨k - 1,by omega⟩
 by_cases h : i + 1≤j
 ·rw [if_pos h]
  have e1 : halfN (M * 2 ^ j) (i + 1) = false:=by
   simp only [halfN,Nat.add_sub_cancel]
   rw [ZiB (by omega),show j - i = (j - i - 1) + 1 by omega,Nat.pow_succ,← Nat.mul_assoc,Nat.mul_mod_left]; rfl
  have e2 : moreN (M * 2 ^ j) false (i + 1) = false:=by
   simp only [moreN,Nat.add_sub_cancel,Bool.false_or]
   rw [ZkL (by omega)]; rfl
  have e3 : ∀ a b,upB md a b false false = false:=by intro a b; simp [upB]
  simp only [rdN,e1,e2,e3,ZiB h]; rfl
 ·rw [if_neg h]
  have e1 : halfN (M * 2 ^ j) (i + 1) = halfN M (i + 1 - j):=by
   simp only [halfN]
   rw [ZgZ (by omega),show i + 1 - 1 - j = i + 1 - j - 1 by omega]
  have e2 : moreN (M * 2 ^ j) false (i + 1) = moreN M false (i + 1 - j):=by
   simp only [moreN,Bool.false_or]
   rw [Zjv (by omega),show i + 1 - 1 - j = i + 1 - j - 1 by omega]
   have hp:=Nat.two_pow_pos j
   congr 1
   apply propext
   constructor
   ·intro h1 h2; apply h1; rw [h2,Nat.zero_mul]
   ·intro h1 h2
    rcases Nat.mul_eq_zero.1 h2 with h3 | h3
    ·exact h1 h3
    ·omega
  simp only [rdN,e1,e2,ZgZ (show j≤i + 1 by omega)]
theorem ZmT (md : Int) (neg : Bool) {M : Nat} (hM : M≠0) (E u : Int) (hu : E + blen M - 64 < u) :
  rdN md neg (if blen M≤64 then M * 2 ^ (64 - blen M) else M / 2 ^ (blen M - 64)) (if blen M≤64 then false else decide (M % 2 ^ (blen M - 64)≠0)) (u - (E + blen M) + 64).toNat = rnd md neg M E u:=by
 by_cases h : blen M≤64
 ·rw [if_pos h,if_pos h,ZBG _ _ _ _ _ (by omega)]
  unfold rnd
  by_cases h2 : u≤E
  ·rw [if_pos h2,if_pos (by omega),show 64 - blen M - (u - (E + blen M) + 64).toNat = (E - u).toNat by omega]
  ·rw [if_neg h2,if_neg (by omega),show (u - (E + blen M) + 64).toNat - (64 - blen M) = (u - E).toNat by omega]
 ·rw [if_neg h,if_neg h]
  have:=Zoe md neg M false (blen M - 64) (u - (E + blen M) + 64).toNat (by omega)
  rw [Bool.false_or] at this
  rw [this]
  unfold rnd
  rw [if_neg (by omega),show blen M - 64 + (u - (E + blen M) + 64).toNat = (u - E).toNat by omega]
def ovr (F : Fm) (md : Int) (neg : Bool) : Nat:=if md = 3∨(md = 4∧neg = true)∨(md = 5∧neg = false) then F.inf neg - 1 else F.inf neg
def wordOf (F : Fm) (md : Int) (neg : Bool) (n : Nat) (ex : Bool) (e top : Int) (fine : Nat) : Nat × Nat :=
 if F.wide < blen n + e then (ovr F md neg,20)
 else (F.enc n e + F.sgn neg,if ex then 0 else if blen fine + (top - F.fr - 1) < F.low + F.fr + 1 then 24 else 16)
def Fm.eOf (F : Fm) (top : Int) : Int:=max (top - F.fr - 1) F.low
def rndW (F : Fm) (md : Int) (d : Dy) : Nat × Nat :=
 if d.m = 0 then (0,0) else
 let top:=d.e + blen d.m
 let r:=rnd md d.n d.m d.e (F.eOf top)
 wordOf F md d.n r.1 r.2 (F.eOf top) top (rnd md d.n d.m d.e (top - F.fr - 1)).1
def fmA (F : Fm) : AV:=.agg [.int .i64 ((F.fr : Int) + 1),.int .i64 F.low,.int .i64 F.wide]
theorem Zfo (J : Al G T g) (F : Fm) : run G T 47 [.int .u8 F.u] = some (.tup [fmA F,.bool true]):=by
 rw [Zac G T J.E.Zfo]
 cases F <;> (simp only [fmA,Fm.u,Fm.fr,Fm.low,Fm.wide,Int.cast_ofNat_Int,Int.reduceAdd]; repeat' (first|simp (maxSteps:=9^7) only [seval,exC,ZeQ]|simp (maxSteps:=9^7) (disch:=first|with_reducible assumption|omega) only [dxB]|(simp only [kdB];split)|(simp only [kvB];split)))
theorem iad10 (a b c : AV) (k : IntKind) : iaddrV 3 (.imm 1 [a,b,c]) (.int k 0) = some (.iptr [a,b,c] 0):=rfl
theorem iad20 (a b c a' b' c' : AV) (k : IntKind) : iaddrV 3 (.imm 2 [a,b,c,a',b',c']) (.int k 0) = some (.iptr [a,b,c,a',b',c'] 0):=rfl
theorem iad21 (a b c a' b' c' : AV) (k : IntKind) : iaddrV 3 (.imm 2 [a,b,c,a',b',c']) (.int k 1) = some (.iptr [a,b,c,a',b',c'] 3):=rfl
theorem Zmp : ∀ (e : Env) (h : Heap),evL G T ZdT e h = kS G T (evL G T Zcy (keepE [6,8,27,28,29] e) h) ZdT:=fun e h => Zaf G T (c:=ZdT) rfl e h
theorem ZsB (J : Al G T g) (F : Fm) {m : Int} (h : 1≤m∧m≤5) : run G T 21 [.int .u8 F.u,.int .u8 m,.nil] = some (.tup [fmA F,.int .i64 0]):=by
 rw [Zac G T J.E.round_open]
 have h1:=Zfo (G:=G) J F
 simp only [fmA] at *
 repeat' (first|simp (maxSteps:=9^7) only [seval,exC,ZdA,h1,Zmp,Zcy]|simp (maxSteps:=9^7) (disch:=first|with_reducible assumption|omega) only [dxB]|(simp only [kdB];split)|(simp only [kvB];split))
theorem Zot (J : Al G T g) (F : Fm) {m : Int} (h : 1≤m∧m≤5) {n z : Bool} {l : List Nat} (hd : Dg l) {e : Int} :
  run G T 21 [.int .u8 F.u,.int .u8 m,.imm 1 [.bool n,D z l,.int .i64 e]] = some (.tup [fmA F,.int .i64 (if mayD n l e then 0 else 2)]):=by
 rw [Zac G T J.E.round_open]
 have h1:=Zfo (G:=G) J F
 have h2:=Zdl (G:=G) J n z hd e
 simp only [fmA,A3] at *
 cases hm : mayD n l e <;> (
  rw [hm] at h2
  repeat' (first|simp (maxSteps:=9^7) only [seval,exC,ZdA,h1,h2,Zmp,Zcy,iad10,iad20,iad21,ZDA]|simp (maxSteps:=9^7) (disch:=first|with_reducible assumption|omega) only [dxB]|(simp only [kdB];split)|(simp only [kvB];split))
  all_goals rfl)
theorem ZsC (J : Al G T g) (F : Fm) {m : Int} (h : 1≤m∧m≤5) {n z n' z' : Bool} {l l' : List Nat} (hd : Dg l) (hd' : Dg l') {e e' : Int} :
  run G T 21 [.int .u8 F.u,.int .u8 m,.imm 2 [.bool n,D z l,.int .i64 e,.bool n',D z' l',.int .i64 e']] = some (.tup [fmA F,.int .i64 (if mayD n l e && mayD n' l' e' then 0 else 2)]):=by
 rw [Zac G T J.E.round_open]
 have h1:=Zfo (G:=G) J F
 have h2:=Zdl (G:=G) J n z hd e
 have h3:=Zdl (G:=G) J n' z' hd' e'
 simp only [fmA,A3] at *
 cases hm : mayD n l e <;> cases hm' : mayD n' l' e' <;> (
  rw [hm] at h2
  rw [hm'] at h3
  repeat' (first|simp (maxSteps:=9^7) only [seval,exC,ZdA,h1,h2,h3,Zmp,Zcy,iad10,iad20,iad21,ZDA]|simp (maxSteps:=9^7) (disch:=first|with_reducible assumption|omega) only [dxB]|(simp only [kdB];split)|(simp only [kvB];split))
  all_goals rfl)
theorem ZlR (J : Al G T g) {m : Int} {neg odd half more : Bool} : run G T 93 [.int .u8 m,.bool neg,.bool odd,.bool half,.bool more] = some (.bool (upB m neg odd half more)):=by
 rw [Zac G T J.E.ZlR]
 by_cases h1 : m = 1
 ·subst h1
  cases odd <;> cases more <;> (repeat' (first|simp (maxSteps:=9^7) only [seval,exC,ZdB]|simp (maxSteps:=9^7) (disch:=first|with_reducible assumption|omega) only [dxB]|(simp only [kdB];split)|(simp only [kvB];split)); cases half <;> rfl)
 ·by_cases h2 : m = 2
  ·subst h2; repeat' (first|simp (maxSteps:=9^7) only [seval,exC,ZdB]|simp (maxSteps:=9^7) (disch:=first|with_reducible assumption|omega) only [dxB]|(simp only [kdB];split)|(simp only [kvB];split)); rfl
  ·by_cases h4 : m = 4
   ·subst h4
    cases neg <;> cases half <;> (repeat' (first|simp (maxSteps:=9^7) only [seval,exC,ZdB]|simp (maxSteps:=9^7) (disch:=first|with_reducible assumption|omega) only [dxB]|(simp only [kdB];split)|(simp only [kvB];split)); cases more <;> rfl)
   ·by_cases h5 : m = 5
    ·subst h5
     cases neg <;> cases half <;> (repeat' (first|simp (maxSteps:=9^7) only [seval,exC,ZdB]|simp (maxSteps:=9^7) (disch:=first|with_reducible assumption|omega) only [dxB]|(simp only [kdB];split)|(simp only [kvB];split)); cases more <;> rfl)
    ·repeat' (first|simp (maxSteps:=9^7) only [seval,exC,ZdB]|simp (maxSteps:=9^7) (disch:=first|with_reducible assumption|omega) only [dxB]|(simp only [kdB];split)|(simp only [kvB];split))
     simp [upB,h1,h2,h4,h5]
theorem ZhR (J : Al G T g) {b : Bool} : run G T 92 [.bool b] = some (.int .u64 (b.toNat : Int)):=by
 rw [Zac G T J.E.ZhR]
 cases b <;> (repeat' (first|simp (maxSteps:=9^7) only [seval,exC,ZgU]|simp (maxSteps:=9^7) (disch:=first|with_reducible assumption|omega) only [dxB]|(simp only [kdB];split)|(simp only [kvB];split)); try rfl)
def headN (m : Nat) : Nat:=if blen m≤64 then m * 2 ^ (64 - blen m) else m / 2 ^ (blen m - 64)
def behindN (m : Nat) : Bool:=if blen m≤64 then false else decide (m % 2 ^ (blen m - 64)≠0)
theorem Zml {m : Nat} (h : m≠0) : blen (headN m) = 64:=by
 unfold headN; split
 ·rw [Zap h]; omega
 ·rw [Zam]; omega
def partA (w : Nat) (top : Int) (more : Bool) : AV:=.agg [.int .u64 (w : Int),.int .i64 top,.bool more]
theorem Zhe (J : Al G T g) {z : Bool} {d : Dy} (hm : mayL (dl d.m) = true) (h0 : d.m≠0) (he : -1099511627776 < d.e∧d.e < 1099511627776) :
  run G T 23 [DyA z d] = some (partA (headN d.m) (d.e + blen d.m) (behindN d.m)):=by
 rw [Zac G T J.E.Zhe]
 obtain ⟨n,m,e⟩:=d
 simp only at *
 have hb:=Zee hm
 have hh:=Zml h0
 have h1:=Zgu J (z:=z) hm
 have h64 : headN m < 18446744073709551616:=Zae.1 (Nat.le_of_eq hh)
 have hs : ∃ z',run G T 50 [D z (dl m),.int .i64 (64 - blen m)] = some (.tup [D z' (dl (headN m)),.bool (behindN m),.int .i64 0]):=by
  unfold headN behindN
  by_cases hc : blen m≤64
  ·obtain ⟨z',hz⟩:=ZdD (G:=G) J (z:=z) (a:=m) (n:=64 - blen m) hm (by omega) (by omega)
   rw [show ((64 - blen m : Nat) : Int) = 64 - blen m by omega] at hz
   exact ⟨z',by rw [if_pos hc,if_pos hc]; exact hz⟩
  ·obtain ⟨z',hz⟩:=ZeX (G:=G) J (z:=z) (a:=m) (n:=blen m - 64) hm (by omega) (by omega)
   rw [show -((blen m - 64 : Nat) : Int) = 64 - blen m by omega] at hz
   exact ⟨z',by rw [if_neg hc,if_neg hc,hz]; simp⟩
 obtain ⟨z',h2⟩:=hs
 have h3:=ZnY J (z:=z') h64
 simp only [DyA,A3,partA] at *
 repeat' (first|simp (maxSteps:=9^7) only [seval,exC,ZeR,h1,h2,h3]|simp (maxSteps:=9^7) (disch:=first|with_reducible assumption|omega) only [dxB]|(simp only [kdB];split)|(simp only [kvB];split))
theorem ZrX {x : Int} (h : 0≤x∧x < 18446744073709551616) : andI .u64 x 1 = x % 2:=by
 obtain ⟨n,rfl⟩:=Int.eq_ofNat_of_zero_le h.1
 have:=and64 (a:=n) (b:=1) (by omega) (by decide)
 rw [show ((1 : Nat) : Int) = 1 from rfl] at this
 rw [this,Zpp]; rfl
theorem Zrb {n : Nat} (h : n < 18446744073709551616) : 0≤(n : Int)∧(n : Int) < 18446744073709551616:=⟨Int.natCast_nonneg n,by omega⟩
theorem Zpo {x j : Nat} (hx : x < 18446744073709551616) (hj : j < 64) : andI .u64 (x : Int) (2 ^ j - 1) = ((x % 2 ^ j : Nat) : Int):=by
 have hp:=Nat.two_pow_pos j
 have h2 : 2 ^ j < 18446744073709551616:=Nat.lt_of_lt_of_le (Nat.pow_lt_pow_right (by decide) hj) (by decide)
 have e : ((2 : Int) ^ j - 1) = ((2 ^ j - 1 : Nat) : Int):=by rw [Zbk]; omega
 rw [e,and64 hx (by omega),Nat.and_two_pow_sub_one_eq_mod]
set_option maxHeartbeats 2000000 in
theorem Zou (J : Al G T g) {m : Int} {neg more : Bool} {w k : Nat} {e top : Int} (hw : blen w = 64) (hk : e - top + 64 = k) (h0 : 0 < k) (he : -1099511627776 < e∧e < 1099511627776) (ht : -1099511627776 < top∧top < 1099511627776) :
  run G T 52 [partA w top more,.int .u8 m,.bool neg,.int .i64 e] = some (.tup [.int .u64 ((rdN m neg w more k).1 : Int),.bool (rdN m neg w more k).2]):=by
 rw [Zac G T J.E.round_part_units]
 have h64 : w < 18446744073709551616:=Zae.1 (Nat.le_of_eq hw)
 have hw0 : w≠0:=by rintro rfl; rw [Zal] at hw; omega
 by_cases hc : 64 < k
 ·have h1:=ZlR (G:=G) J (m:=m) (neg:=neg) (odd:=false) (half:=false) (more:=true)
  have h2:=ZhR (G:=G) J (b:=upB m neg false false true)
  have e0 : ∀ j,64≤j→w < 2 ^ j:=fun j hj => Nat.lt_of_lt_of_le h64 (by rw [show 18446744073709551616 = 2 ^ 64 from rfl]; exact Nat.pow_le_pow_right (by decide) hj)
  have e1 : w / 2 ^ k = 0:=Nat.div_eq_of_lt (e0 _ (by omega))
  have e2 : halfN w k = false:=by simp only [halfN]; rw [Nat.div_eq_of_lt (e0 _ (by omega))]; rfl
  have e3 : moreN w more k = true:=by simp only [moreN]; rw [Nat.mod_eq_of_lt (e0 _ (by omega)),decide_eq_true hw0,Bool.or_true]
  have e4 : rdN m neg w more k = ((upB m neg false false true).toNat,false):=by simp only [rdN,e1,e2,e3]; simp
  rw [e4]
  simp only [partA] at *
  repeat' (first|simp (maxSteps:=9^7) only [seval,exC,ZaI,h1,h2,hk]|simp (maxSteps:=9^7) (disch:=first|with_reducible assumption|omega) only [dxB]|(simp only [kdB];split)|(simp only [kvB];split))
 ·have hkm : min (k - 1) 64 = k - 1:=by omega
  have hkp : min k 64 = k:=by omega
  have p1:=Nat.two_pow_pos k
  have hh : (w : Int) / 2 ^ (k - 1) = ((w / 2 ^ (k - 1) : Nat) : Int):=by rw [Zbk]; rfl
  have hd : (w : Int) / 2 ^ k = ((w / 2 ^ k : Nat) : Int):=by rw [Zbk]; rfl
  have hq : w / 2 ^ (k - 1) < 18446744073709551616:=Nat.lt_of_le_of_lt (Nat.div_le_self ..) h64
  have hq2 : w / 2 ^ k < 9223372036854775808:=by
   apply Nat.div_lt_of_lt_mul
   have : 2 ^ 1≤2 ^ k:=Nat.pow_le_pow_right (by decide) h0
   omega
  have hmsk:=Zpo (x:=w) (j:=k - 1) h64 (by omega)
  have p2 : 2 ^ (k - 1) < 18446744073709551616:=Nat.lt_of_lt_of_le (Nat.pow_lt_pow_right (by decide) (show k - 1 < 64 by omega)) (by decide)
  have p3:=Nat.two_pow_pos (k - 1)
  have w1 : (1 * (2 : Int) ^ (k - 1)) % 18446744073709551616 = 2 ^ (k - 1):=by rw [Zbk]; omega
  have w2 : ((2 : Int) ^ (k - 1) - 1) % 18446744073709551616 = 2 ^ (k - 1) - 1:=by rw [Zbk]; omega
  have hb1 : decide (((w / 2 ^ (k - 1) : Nat) : Int) % 2 = 1) = halfN w k:=by
   simp only [halfN]; congr 1; apply propext; omega
  have hb2 : (!decide (((w % 2 ^ (k - 1) : Nat) : Int) = 0)) = moreN w false k:=by
   simp only [moreN,Bool.false_or,ne_eq,decide_not]; congr 2; apply propext; omega
  have hb4 : moreN w true k = true:=rfl
  have hA1:=ZrX (x:=((w / 2 ^ (k - 1) : Nat) : Int)) (Zrb hq)
  have hA2:=ZrX (x:=((w / 2 ^ k : Nat) : Int)) (Zrb (Nat.lt_trans hq2 (by decide)))
  have hA3:=ZrX (x:=0) (by decide)
  by_cases hk2 : k = 64
  ·have e1 : w / 2 ^ k = 0:=Nat.div_eq_of_lt (by rw [hk2]; exact h64)
   have h1:=ZlR (G:=G) J (m:=m) (neg:=neg) (odd:=false) (half:=halfN w k) (more:=moreN w more k)
   have h2:=ZhR (G:=G) J (b:=upB m neg false (halfN w k) (moreN w more k))
   have e4 : rdN m neg w more k = ((upB m neg false (halfN w k) (moreN w more k)).toNat,!halfN w k && !moreN w more k):=by simp only [rdN,e1]; simp
   have hbt : (upB m neg false (halfN w k) (moreN w more k)).toNat≤1:=by cases upB m neg false (halfN w k) (moreN w more k) <;> decide
   rw [e4]
   generalize (upB m neg false (halfN w k) (moreN w more k)).toNat = bt at *
   simp only [partA] at *
   cases more
   ·cases hH : halfN w k <;> cases hM : moreN w false k <;> (
     rw [hH] at h1 h2 hb1
     rw [hM] at h1 h2 hb2
     repeat' (first|simp (maxSteps:=9^7) only [seval,exC,ZaI,h1,h2,hk,hkm,hA1,hA2,hA3,hh,hb1,hb2,hmsk,w1,w2]|simp (maxSteps:=9^7) (disch:=first|with_reducible assumption|omega) only [dxB]|(simp only [kdB];split)|(simp only [kvB];split))
     all_goals (refine Zft ?_; clear hA1 hA2; generalize w / 2 ^ k = Q at hq2 ⊢; omega))
   ·rw [hb4] at *
    cases hH : halfN w k <;> (
     rw [hH] at h1 h2 hb1
     repeat' (first|simp (maxSteps:=9^7) only [seval,exC,ZaI,h1,h2,hk,hkm,hA1,hA2,hA3,hh,hb1,hmsk,w1,w2]|simp (maxSteps:=9^7) (disch:=first|with_reducible assumption|omega) only [dxB]|(simp only [kdB];split)|(simp only [kvB];split))
     all_goals (refine Zft ?_; clear hA1 hA2; generalize w / 2 ^ k = Q at hq2 ⊢; omega))
  ·have h1:=ZlR (G:=G) J (m:=m) (neg:=neg) (odd:=decide (w / 2 ^ k % 2 = 1)) (half:=halfN w k) (more:=moreN w more k)
   have h2:=ZhR (G:=G) J (b:=upB m neg (decide (w / 2 ^ k % 2 = 1)) (halfN w k) (moreN w more k))
   have hb3 : decide (((w / 2 ^ k : Nat) : Int) % 2 = 1) = decide (w / 2 ^ k % 2 = 1):=by congr 1; apply propext; omega
   have hbt : (upB m neg (decide (w / 2 ^ k % 2 = 1)) (halfN w k) (moreN w more k)).toNat≤1:=by cases upB m neg (decide (w / 2 ^ k % 2 = 1)) (halfN w k) (moreN w more k) <;> decide
   simp only [rdN]
   generalize (upB m neg (decide (w / 2 ^ k % 2 = 1)) (halfN w k) (moreN w more k)).toNat = bt at *
   simp only [partA] at *
   have hlt : k < 64:=by omega
   cases more
   ·cases hH : halfN w k <;> cases hM : moreN w false k <;> (
     rw [hH] at h1 h2 hb1
     rw [hM] at h1 h2 hb2
     repeat' (first|simp (maxSteps:=9^7) only [seval,exC,ZaI,h1,h2,hk,hkm,hA1,hA2,hA3,hkp,hh,hd,hb1,hb2,hb3,hmsk,w1,w2]|simp (maxSteps:=9^7) (disch:=first|with_reducible assumption|omega) only [dxB]|(simp only [kdB];split)|(simp only [kvB];split))
     all_goals (refine Zft ?_; clear hA1 hA2; generalize w / 2 ^ k = Q at hq2 ⊢; omega))
   ·rw [hb4] at *
    cases hH : halfN w k <;> (
     rw [hH] at h1 h2 hb1
     repeat' (first|simp (maxSteps:=9^7) only [seval,exC,ZaI,h1,h2,hk,hkm,hA1,hA2,hA3,hkp,hh,hd,hb1,hb3,hmsk,w1,w2]|simp (maxSteps:=9^7) (disch:=first|with_reducible assumption|omega) only [dxB]|(simp only [kdB];split)|(simp only [kvB];split))
     all_goals (refine Zft ?_; clear hA1 hA2; generalize w / 2 ^ k = Q at hq2 ⊢; omega))
theorem ZhQ (J : Al G T g) (F : Fm) {m : Int} (h : 1≤m∧m≤5) {neg : Bool} : run G T 8 [.int .u8 F.u,.int .u8 m,.bool neg] = some (.tup [.int .u64 (ovr F m neg : Int),.int .i64 0]):=by
 rw [Zac G T J.E.ZhQ]
 have h1:=ZsB (G:=G) J F h
 have h2:=ZiV (G:=G) J F (n:=neg)
 have h3:=ZiW (G:=G) J F (n:=neg)
 simp only [fmA] at *
 cases neg
 ·repeat' (first|simp (maxSteps:=9^7) only [seval,exC,Zfj,h1,h2,h3]|simp (maxSteps:=9^7) (disch:=first|with_reducible assumption|omega) only [dxB]|(simp only [kdB];split)|(simp only [kvB];split))
  all_goals simp_all [ovr]
 ·repeat' (first|simp (maxSteps:=9^7) only [seval,exC,Zfj,h1,h2,h3]|simp (maxSteps:=9^7) (disch:=first|with_reducible assumption|omega) only [dxB]|(simp only [kdB];split)|(simp only [kvB];split))
  all_goals simp_all [ovr]
theorem Zca (n : Bool) (e : Int) : mkD n 0 e = ⟨false,0,0⟩:=rfl
theorem Zar {n : Bool} {m : Nat} (h : m≠0) (e : Int) : mkD n m e = ⟨n,m / 2 ^ tz m,e + tz m⟩:=if_neg h
theorem ZnU {n : Bool} {m : Nat} (h : m≠0) (e : Int) : (mkD n m e).m≠0:=by
 rw [Zar h]; have:=(ZcY h).2; intro h0; simp only at h0; rw [h0] at this; exact absurd this (by decide)
theorem Zlx {n : Bool} {m : Nat} (h : m≠0) (e : Int) : (mkD n m e).e + blen (mkD n m e).m = e + blen m:=by
 rw [Zar h]; simp only [Zam]
 have:=Zfu h; omega
theorem Zau {a : Nat} (h : blen a≤131072) : mayL (dl a) = true:=by
 rw [ZaV]; refine ⟨?_,ZCx a⟩; have:=Zaa a; omega
theorem dg0 (a : Nat) : dg (dl a) 0 % 2 = a % 2:=by
 rw [Zns (ZaC a),ZaN]; simp
theorem ZDn {n : Bool} {m : Nat} {e : Int} (hb : blen m≤131072) (he : m = 0∨(-16777216≤e + tz m∧e + tz m≤16777216)) : mayD (mkD n m e).n (dl (mkD n m e).m) (mkD n m e).e = true:=by
 by_cases h : m = 0
 ·subst h; rw [Zca,Zaq]; rfl
 ·rw [Zar h]
  simp only at *
  have h1 : mayL (dl (m / 2 ^ tz m)) = true:=Zau (by rw [Zam]; omega)
  have h2:=(ZcY h).2
  have h3 : ¬ (dl (m / 2 ^ tz m)).length = 0:=by rw [Zaz]; intro h0; rw [h0] at h2; exact absurd h2 (by decide)
  simp only [mayD,h1,h3,if_false,dg0,h2,Bool.true_and,decide_true]
  rw [decide_eq_true (by omega : -16777216≤e + tz m),decide_eq_true (by omega : e + tz m≤16777216)]; rfl
theorem Zkk {F : Fm} {neg : Bool} {n : Nat} {e : Int} (h0 : n≠0) (h1 : n≤2 ^ (F.fr + 1)) (h2 : F.low≤e) (h3 : e + blen n≤F.wide) : F.fits (mkD neg n e):=by
 have hb:=Zlx (n:=neg) h0 e
 have hm:=ZnU (n:=neg) h0 e
 refine ⟨hm,?_,?_,by omega⟩
 ·rw [Zar h0]; simp only
  rcases Nat.lt_or_ge n (2 ^ (F.fr + 1)) with h | h
  ·rw [Zam]; have:=Zae.2 h; omega
  ·have h5 : n = 1 * 2 ^ (F.fr + 1):=by omega
   rw [h5,Zei (by decide),Nat.mul_div_cancel _ (Nat.two_pow_pos _),show blen 1 = 1 from rfl]; omega
 ·rw [Zar h0]; simp only; omega
theorem ZpR {F : Fm} {neg : Bool} {n : Nat} {e : Int} (h0 : n≠0) (h1 : n≤2 ^ (F.fr + 1)) (h2 : F.low≤e) (h4 : e = F.low∨2 ^ F.fr≤n) :
  F.enc ((mkD neg n e).m * 2 ^ ((mkD neg n e).e - F.unit (mkD neg n e)).toNat) (F.unit (mkD neg n e)) = F.enc n e:=by
 have hb:=Zlx (n:=neg) h0 e
 have hu : F.unit (mkD neg n e) = max (e + blen n - F.fr - 1) F.low:=by unfold Fm.unit; rw [hb]
 rw [hu]
 rcases Nat.lt_or_ge n (2 ^ (F.fr + 1)) with h | h
 ·have h5:=Zae.2 h
  have h6 : max (e + blen n - F.fr - 1) F.low = e:=by
   rcases h4 with h4 | h4
   ·omega
   ·have:=ZaA.2 h4; omega
  rw [h6,Zar h0]
  simp only
  rw [show (e + (tz n : Int) - e).toNat = tz n by omega,← (ZcY h0).1]
 ·have h5 : n = 1 * 2 ^ (F.fr + 1):=by omega
  have h6 : tz n = F.fr + 1:=by rw [h5]; exact Zei (by decide)
  have h7 : blen n = F.fr + 2:=by rw [h5,Zap (by decide),show blen 1 = 1 from rfl]; omega
  rw [Zar h0,h6,h7]
  simp only
  have h8 : n / 2 ^ (F.fr + 1) = 1:=by rw [h5,Nat.mul_div_cancel _ (Nat.two_pow_pos _)]
  rw [h8,show max (e + ((F.fr + 2 : Nat) : Int) - F.fr - 1) F.low = e + 1 by omega,show (e + ((F.fr + 1 : Nat) : Int) - (e + 1)).toNat = F.fr by omega]
  unfold Fm.enc
  rw [show (e + 1 - F.low).toNat = (e - F.low).toNat + 1 by omega,Nat.add_mul,h5,Nat.pow_succ]; omega
theorem Zuk {md : Int} {neg more : Bool} {w k : Nat} (hw : blen w = 64) {p : Nat} (hk : 64≤k + p) : (rdN md neg w more k).1≤2 ^ p:=by
 have h64 : w < 2 ^ 64:=Zae.1 (Nat.le_of_eq hw)
 have h1 : w / 2 ^ k < 2 ^ p:=by
  apply Nat.div_lt_of_lt_mul
  rw [← Nat.pow_add]
  exact Nat.lt_of_lt_of_le h64 (Nat.pow_le_pow_right (by decide) hk)
 have h2 : ∀ b : Bool,b.toNat≤1:=by intro b; cases b <;> decide
 have:=h2 (upB md neg (decide (w / 2 ^ k % 2 = 1)) (halfN w k) (moreN w more k))
 simp only [rdN]; omega
theorem Zyc {md : Int} {neg more : Bool} {w k : Nat} (hw : blen w = 64) (hk : k≤63) : 2 ^ (63 - k)≤(rdN md neg w more k).1:=by
 have h1 : 2 ^ 63≤w:=ZaA.1 (by omega)
 have h2 : 2 ^ (63 - k)≤w / 2 ^ k:=by
  rw [Nat.le_div_iff_mul_le (Nat.two_pow_pos _),← Nat.pow_add,show 63 - k + k = 63 by omega]; exact h1
 simp only [rdN]; omega
theorem ZaM (F : Fm) : (F.fr = 23∧F.low = -149∧F.wide = 128)∨(F.fr = 52∧F.low = -1074∧F.wide = 1024):=by
 cases F
 ·exact Or.inl ⟨rfl,rfl,rfl⟩
 ·exact Or.inr ⟨rfl,rfl,rfl⟩
def partW (F : Fm) (md : Int) (neg : Bool) (w : Nat) (more : Bool) (top : Int) : Nat × Nat :=
 wordOf F md neg (rdN md neg w more (F.eOf top - top + 64).toNat).1 (rdN md neg w more (F.eOf top - top + 64).toNat).2 (F.eOf top) top (rdN md neg w more (63 - F.fr)).1
set_option maxHeartbeats 4000000 in
theorem Zpb (J : Al G T g) (F : Fm) {m : Int} (hm : 1≤m∧m≤5) {neg more : Bool} {w : Nat} {top : Int} (hw : blen w = 64) (ht : -549755813888 < top∧top < 549755813888) :
  run G T 24 [partA w top more,.int .u8 F.u,fmA F,.int .u8 m,.bool neg] = some (.tup [.int .u64 ((partW F m neg w more top).1 : Int),.int .u8 ((partW F m neg w more top).2 : Int)]):=by
 rw [Zac G T J.E.round_part_word]
 have hF:=ZaM F
 have hE : max (top - ((F.fr : Int) + 1)) F.low = F.eOf top:=by unfold Fm.eOf; omega
 have u1:=Zou (G:=G) J (m:=m) (neg:=neg) (more:=more) (w:=w) (k:=(F.eOf top - top + 64).toNat) (e:=F.eOf top) (top:=top) hw (by omega) (by omega) (by omega) (by omega)
 have u2:=Zou (G:=G) J (m:=m) (neg:=neg) (more:=more) (w:=w) (k:=63 - F.fr) (e:=top - ((F.fr : Int) + 1)) (top:=top) hw (by omega) (by omega) (by omega) (by omega)
 have b1:=Zuk (md:=m) (neg:=neg) (more:=more) hw (k:=(F.eOf top - top + 64).toNat) (p:=F.fr + 1) (by omega)
 have b2:=Zuk (md:=m) (neg:=neg) (more:=more) hw (k:=63 - F.fr) (p:=F.fr + 1) (by omega)
 have l1 : F.eOf top = F.low∨2 ^ F.fr≤(rdN m neg w more (F.eOf top - top + 64).toNat).1:=by
  by_cases h : F.eOf top = F.low
  ·exact Or.inl h
  ·right
   have:=Zyc (md:=m) (neg:=neg) (more:=more) hw (k:=(F.eOf top - top + 64).toNat) (by omega)
   rwa [show 63 - (F.eOf top - top + 64).toNat = F.fr by omega] at this
 have hp : 2 ^ (F.fr + 1)≤9007199254740992:=by cases F <;> decide
 have o1:=ZhQ (G:=G) J F hm (neg:=neg)
 unfold partW
 generalize (F.eOf top - top + 64).toNat = k at *
 obtain ⟨n,ex,hR⟩ : ∃ n ex,rdN m neg w more k = (n,ex):=⟨_,_,rfl⟩
 obtain ⟨fine,ex2,hR2⟩ : ∃ n ex,rdN m neg w more (63 - F.fr) = (n,ex):=⟨_,_,rfl⟩
 rw [hR] at u1 b1 l1 ⊢
 rw [hR2] at u2 b2 ⊢
 simp only at *
 have c1:=ZfU J (x:=n) (by omega)
 have c2:=ZfU J (x:=fine) (by omega)
 have q1 : blen n≤54:=Zae.2 (by omega)
 have q2 : blen fine≤54:=Zae.2 (by omega)
 obtain ⟨z1,f1⟩:=ZnZ J (n:=n) (by omega)
 by_cases hov : F.wide < blen n + F.eOf top
 ·simp only [wordOf,if_pos hov]
  simp only [partA,fmA] at *
  repeat' (first|simp (maxSteps:=9^7) only [seval,exC,ZaQ,hE,u1,c1,o1]|simp (maxSteps:=9^7) (disch:=first|with_reducible assumption|omega) only [dxB]|(simp only [kdB];split)|(simp only [kvB];split))
 ·by_cases hn : n = 0
  ·subst hn
   have hlow : F.eOf top = F.low:=by
    rcases l1 with h | h
    ·exact h
    ·have:=Nat.two_pow_pos F.fr; omega
   obtain ⟨z2,f2⟩:=ZbQ J (n:=neg) (z:=z1) (a:=0) (e:=F.eOf top) (Zau (by rw [Zal]; omega)) (Or.inl rfl) (by omega)
   rw [Zca] at f2
   have f3:=ZrR J F (z:=z2)
   have f4:=Zme J F (n:=neg)
   have e0 : F.enc 0 (F.eOf top) = 0:=by rw [hlow]; simp [Fm.enc]
   simp only [wordOf,if_neg hov,e0,Nat.zero_add]
   simp only [partA,fmA,DyA,A3,cast0] at *
   cases ex
   ·repeat' (first|simp (maxSteps:=9^7) only [seval,exC,ZaQ,hE,u1,c1,c2,u2,f1,f2,f3,f4]|simp (maxSteps:=9^7) (disch:=first|with_reducible assumption|omega) only [dxB]|(simp only [kdB];split)|(simp only [kvB];split))
    all_goals simp_all
    all_goals (split <;> omega)
   ·repeat' (first|simp (maxSteps:=9^7) only [seval,exC,ZaQ,hE,u1,c1,c2,u2,f1,f2,f3,f4]|simp (maxSteps:=9^7) (disch:=first|with_reducible assumption|omega) only [dxB]|(simp only [kdB];split)|(simp only [kvB];split))
    all_goals simp_all
  ·have htz:=Zfu hn
   obtain ⟨z2,f2⟩:=ZbQ J (n:=neg) (z:=z1) (a:=n) (e:=F.eOf top) (Zau (by omega)) (Or.inr (by omega)) (by omega)
   have hft:=Zkk (F:=F) (neg:=neg) hn b1 (by omega : F.low≤F.eOf top) (by omega)
   have f3:=Zqz J F (z:=z2) (ZDn (n:=neg) (m:=n) (e:=F.eOf top) (by omega) (Or.inr (by omega))) hft
   rw [ZpR hn b1 (by omega) l1] at f3
   have hsn : (mkD neg n (F.eOf top)).n = neg:=by rw [Zar hn]
   rw [hsn] at f3
   simp only [wordOf,if_neg hov]
   have hn' : ¬ (n : Int) = 0:=by omega
   simp only [partA,fmA,DyA,A3] at *
   cases ex
   ·repeat' (first|simp (maxSteps:=9^7) only [seval,exC,ZaQ,hE,u1,c1,c2,u2,f1,f2,f3,hn']|simp (maxSteps:=9^7) (disch:=first|with_reducible assumption|omega) only [dxB]|(simp only [kdB];split)|(simp only [kvB];split))
    all_goals simp_all
    all_goals (split <;> omega)
   ·repeat' (first|simp (maxSteps:=9^7) only [seval,exC,ZaQ,hE,u1,c1,c2,u2,f1,f2,f3,hn']|simp (maxSteps:=9^7) (disch:=first|with_reducible assumption|omega) only [dxB]|(simp only [kdB];split)|(simp only [kvB];split))
    all_goals simp_all
theorem ZzZ (F : Fm) (md : Int) {d : Dy} (h : d.m≠0) : partW F md d.n (headN d.m) (behindN d.m) (d.e + blen d.m) = rndW F md d:=by
 have hF:=ZaM F
 have e1:=ZmT md d.n h d.e (F.eOf (d.e + blen d.m)) (by unfold Fm.eOf; omega)
 have e2:=ZmT md d.n h d.e (d.e + blen d.m - F.fr - 1) (by omega)
 rw [show (d.e + (blen d.m : Int) - F.fr - 1 - (d.e + blen d.m) + 64).toNat = 63 - F.fr by omega] at e2
 simp only [partW,rndW,if_neg h,headN,behindN,e1,e2]
theorem ZiT {n : Bool} {m : Nat} {e : Int} (h : mayD n (dl m) e = true) : (if mayD n (dl m) e = false∨(dl m).length = 0 then (0 : Int) else if n then -1 else 1) = if m = 0 then 0 else if n then -1 else 1:=by
 simp [h,Zfl]
theorem ZcN {n : Bool} {l : List Nat} {e : Int} (h : mayD n l e = true) : mayL l = true∧(l.length = 0→n = false∧e = 0)∧(l.length≠0→dg l 0 % 2 = 1)∧-16777216≤e∧e≤16777216:=by
 simp only [mayD,Bool.and_eq_true] at h
 obtain ⟨h1,h2⟩:=h
 refine ⟨h1,?_⟩
 by_cases h0 : l.length = 0
 ·rw [if_pos h0] at h2
  simp only [Bool.and_eq_true,Bool.not_eq_true',decide_eq_true_eq] at h2
  exact ⟨fun _ => h2,fun h => absurd h0 h,by omega,by omega⟩
 ·rw [if_neg h0] at h2
  simp only [Bool.and_eq_true,decide_eq_true_eq] at h2
  exact ⟨fun h => absurd h h0,fun _ => h2.1,h2.2.1,h2.2.2⟩
def iv (d : Dy) (L : Int) : Int:=(if d.n then -1 else 1) * ((d.m * 2 ^ (d.e - L).toNat : Nat) : Int)
def LoE (d : Dy) (L : Int) : Prop:=d.m = 0∨L≤d.e
def sgI (x : Int) : Int:=if x < 0 then -1 else if 0 < x then 1 else 0
theorem ZaY {d : Dy} (h : d.m = 0) (L : Int) : iv d L = 0:=by simp [iv,h]
theorem ZlY {a b c : Int} (h1 : a≤b) (h2 : b≤c) : 2 ^ (c - a).toNat = 2 ^ (c - b).toNat * 2 ^ (b - a).toNat:=by
 rw [← Nat.pow_add]; congr 1; omega
theorem ZnV {n : Bool} {m : Nat} (h : m≠0) {e L : Int} (hL : L≤e) : (mkD n m e).m * 2 ^ ((mkD n m e).e - L).toNat = m * 2 ^ (e - L).toNat:=by
 rw [Zar h]
 simp only
 rw [ZlY (b:=e) hL (by omega),show (e + (tz m : Int) - e).toNat = tz m by omega,← Nat.mul_assoc,← (ZcY h).1]
theorem Zsp {n : Bool} {m : Nat} (h : m≠0) (e : Int) : (mkD n m e).n = n:=by rw [Zar h]
theorem Zhr {n : Bool} {m : Nat} {e L : Int} (hL : L≤e) : iv (mkD n m e) L = (if n then -1 else 1) * ((m * 2 ^ (e - L).toNat : Nat) : Int):=by
 by_cases h : m = 0
 ·subst h; rw [Zca]; simp [iv]
 ·unfold iv; rw [ZnV h hL,Zsp h]
theorem ZcU {n : Bool} {m : Nat} {e L : Int} (hL : L≤e) : LoE (mkD n m e) L:=by
 by_cases h : m = 0
 ·subst h; exact Or.inl rfl
 ·right; rw [Zar h]; simp only; omega
theorem LoE.mono {d : Dy} {L L' : Int} (h : LoE d L) (hl : L'≤L) : LoE d L':=h.imp id (by omega)
theorem ZiG {d : Dy} {L L' : Int} (h : LoE d L) (hl : L'≤L) : iv d L' = iv d L * ((2 ^ (L - L').toNat : Nat) : Int):=by
 rcases h with h | h
 ·rw [ZaY h,ZaY h]; simp
 ·unfold iv
  rw [ZlY hl h,← Nat.mul_assoc,Int.natCast_mul,Int.mul_assoc]
theorem ZtH (d : Dy) (L : Int) : iv (negD d) L = -iv d L:=by
 unfold negD; split
 ·next h => rw [ZaY h]; rfl
 ·unfold iv; cases d.n <;> simp
theorem Zpm {d : Dy} {L : Int} (h : LoE d L) : LoE (negD d) L:=by
 unfold negD; split
 ·exact h
 ·exact h
theorem Zxk (d : Dy) (L : Int) : iv (absD d) L = ((d.m * 2 ^ (d.e - L).toNat : Nat) : Int):=by simp [iv,absD]
theorem ZDM (n : Bool) (a b : Int) : (if n then -1 else 1) * a + (if n then -1 else 1) * b = (if n then -1 else 1) * (a + b):=by cases n <;> simp <;> omega
theorem Zgr {a b : Dy} {L : Int} (ha : LoE a L) (hb : LoE b L) : iv (addD a b) L = iv a L + iv b L∧LoE (addD a b) L:=by
 unfold addD
 by_cases h0 : a.m = 0
 ·rw [if_pos h0,ZaY h0,Int.zero_add]; exact ⟨rfl,hb⟩
 ·rw [if_neg h0]
  by_cases h1 : b.m = 0
  ·rw [if_pos h1,ZaY h1,Int.add_zero]; exact ⟨rfl,ha⟩
  ·rw [if_neg h1]
   have la : L≤a.e:=ha.resolve_left h0
   have lb : L≤b.e:=hb.resolve_left h1
   have hL : L≤min a.e b.e:=by omega
   have va : iv a L = (if a.n then -1 else 1) * (((a.m * 2 ^ (a.e - min a.e b.e).toNat) * 2 ^ (min a.e b.e - L).toNat : Nat) : Int):=by
    unfold iv; rw [ZlY hL (show min a.e b.e≤a.e by omega),Nat.mul_assoc]
   have vb : iv b L = (if b.n then -1 else 1) * (((b.m * 2 ^ (b.e - min a.e b.e).toNat) * 2 ^ (min a.e b.e - L).toNat : Nat) : Int):=by
    unfold iv; rw [ZlY hL (show min a.e b.e≤b.e by omega),Nat.mul_assoc]
   rw [va,vb]
   generalize a.m * 2 ^ (a.e - min a.e b.e).toNat = A
   generalize b.m * 2 ^ (b.e - min a.e b.e).toNat = B
   generalize hM : min a.e b.e = M at *
   by_cases hn : a.n = b.n
   ·rw [if_pos hn]
    refine ⟨?_,ZcU hL⟩
    rw [Zhr hL,← hn,ZDM,Nat.add_mul,Int.natCast_add]
   ·rw [if_neg hn]
    have hbn : b.n = !a.n:=by cases h : a.n <;> cases h' : b.n <;> simp_all
    by_cases hc : B≤A
    ·rw [if_pos hc]
     refine ⟨?_,ZcU hL⟩
     rw [Zhr hL,hbn]
     have:=Nat.mul_le_mul_right (2 ^ (M - L).toNat) hc
     rw [Nat.sub_mul,Int.natCast_sub this]
     cases a.n <;> simp <;> omega
    ·rw [if_neg hc]
     refine ⟨?_,ZcU hL⟩
     rw [Zhr hL,hbn]
     have:=Nat.mul_le_mul_right (2 ^ (M - L).toNat) (by omega : A≤B)
     rw [Nat.sub_mul,Int.natCast_sub this]
     cases a.n <;> simp <;> omega
theorem ZnN {a b : Dy} {L : Int} (ha : LoE a L) (hb : LoE b L) : iv (subD a b) L = iv a L - iv b L∧LoE (subD a b) L:=by
 have h:=Zgr ha (Zpm hb)
 rw [ZtH] at h
 exact ⟨by unfold subD; rw [h.1]; omega,h.2⟩
theorem ZFv {n L : Int} : iv (twoD n) L = ((2 ^ (n - L).toNat : Nat) : Int):=by simp [iv,twoD]
theorem Zyw (d : Dy) (L : Int) : sgnD d = sgI (iv d L):=by
 unfold sgnD sgI iv
 have hp:=Nat.two_pow_pos (d.e - L).toNat
 by_cases h : d.m = 0
 ·simp [h]
 ·rw [if_neg h]
  have : 0 < d.m * 2 ^ (d.e - L).toNat:=Nat.mul_pos (by omega) hp
  generalize d.m * 2 ^ (d.e - L).toNat = X at *
  cases d.n <;> simp <;> omega
theorem ZCn {a b : Dy} {L : Int} (h0 : a.m≠0) (h1 : b.m≠0) (la : L≤a.e) (lb : L≤b.e) (h : a.e + blen a.m < b.e + blen b.m) : a.m * 2 ^ (a.e - L).toNat < b.m * 2 ^ (b.e - L).toNat:=by
 have e1:=Zap h0 (a.e - L).toNat
 have e2:=Zap h1 (b.e - L).toNat
 have h2 : blen (a.m * 2 ^ (a.e - L).toNat)≤blen (b.m * 2 ^ (b.e - L).toNat) - 1:=by omega
 have h3:=Zae.1 h2
 have h4:=Zbo (n:=b.m * 2 ^ (b.e - L).toNat) (by
  have:=Nat.mul_pos (Nat.pos_of_ne_zero h1) (Nat.two_pow_pos (b.e - L).toNat); omega)
 omega
theorem Znq {a b : Dy} {L : Int} (ha : LoE a L) (hb : LoE b L) : cmpD a b = sgI (iv a L - iv b L):=by
 unfold cmpD
 have sa:=Zyw a L
 have sb:=Zyw b L
 by_cases h1 : sgnD a = sgnD b
 ·rw [if_neg (by simpa using h1)]
  by_cases h2 : sgnD a = 0
  ·rw [if_pos h2]
   have z1 : a.m = 0:=by unfold sgnD at h2; split at h2; assumption; split at h2 <;> cases h2
   have z2 : b.m = 0:=by rw [h1] at h2; unfold sgnD at h2; split at h2; assumption; split at h2 <;> cases h2
   rw [ZaY z1,ZaY z2]; rfl
  ·rw [if_neg h2]
   have n1 : a.m≠0:=by intro h; apply h2; simp [sgnD,h]
   have n2 : b.m≠0:=by intro h; apply h2; rw [h1]; simp [sgnD,h]
   have la:=ha.resolve_left n1
   have lb:=hb.resolve_left n2
   have hs : a.n = b.n:=by
    unfold sgnD at h1; rw [if_neg n1,if_neg n2] at h1
    cases h : a.n <;> cases h' : b.n <;> simp_all
   have t1 : topD a = a.e + blen a.m:=by unfold topD; rw [if_neg n1]
   have t2 : topD b = b.e + blen b.m:=by unfold topD; rw [if_neg n2]
   have sg : sgnD a = if a.n then -1 else 1:=by unfold sgnD; rw [if_neg n1]
   by_cases h3 : topD a = topD b
   ·rw [if_neg (by simpa using h3)]
    rw [Zyw _ L,(ZnN ha hb).1]
   ·rw [if_pos h3]
    rw [t1,t2] at *
    rcases Int.lt_or_gt_of_ne h3 with h4 | h4
    ·have:=ZCn n1 n2 la lb h4
     unfold iv sgI
     rw [← hs,sg,decide_eq_true h4]
     generalize a.m * 2 ^ (a.e - L).toNat = X at *
     generalize b.m * 2 ^ (b.e - L).toNat = Y at *
     cases a.n <;> simp <;> omega
    ·have:=ZCn n2 n1 lb la h4
     have h5 : ¬ (a.e + (blen a.m : Int) < b.e + blen b.m):=by omega
     unfold iv sgI
     rw [← hs,sg,decide_eq_false h5]
     generalize a.m * 2 ^ (a.e - L).toNat = X at *
     generalize b.m * 2 ^ (b.e - L).toNat = Y at *
     cases a.n <;> simp <;> omega
 ·rw [if_pos (by simpa using h1)]
  rw [sa,sb] at *
  unfold sgI at *
  generalize iv a L = x at *
  generalize iv b L = y at *
  by_cases x1 : x < 0 <;> by_cases x2 : 0 < x <;> by_cases y1 : y < 0 <;> by_cases y2 : 0 < y <;> simp_all <;> omega
theorem Zmv (J : Al G T g) {z : Bool} {d : Dy} (he : -4398046511104 < d.e∧d.e < 4398046511104) : run G T 71 [DyA z d] = some (DyA z (shD d (-1))):=by
 rw [Zac G T J.E.Zmv]
 have h1:=ZeB (G:=G) J (z:=z) (d:=d) (k := -1) (by omega) he
 simp only [DyA,A3] at *
 repeat' (first|simp (maxSteps:=9^7) only [seval,exC,ZgT,h1]|simp (maxSteps:=9^7) (disch:=first|with_reducible assumption|omega) only [dxB]|(simp only [kdB];split)|(simp only [kvB];split))
theorem Zmu (J : Al G T g) (F : Fm) {m : Int} (hm : 1≤m∧m≤5) {neg : Bool} : run G T 10 [.int .u8 F.u,.int .u8 m,.bool neg] = some (.int .u64 (ovr F m neg : Int)):=by
 rw [Zac G T J.E.Zmu]
 have h1:=ZlN (G:=G) J F (n:=neg)
 have hb : 1≤F.inf neg∧F.inf neg < 18446744073709551616:=by cases F <;> cases neg <;> decide
 have h2 : ((F.inf neg : Int) - 1) % 18446744073709551616 = ((F.inf neg - 1 : Nat) : Int):=by omega
 cases neg
 ·repeat' (first|simp (maxSteps:=9^7) only [seval,exC,Zfh,h1,h2]|simp (maxSteps:=9^7) (disch:=first|with_reducible assumption|omega) only [dxB]|(simp only [kdB];split)|(simp only [kvB];split))
  all_goals simp_all [ovr]
 ·repeat' (first|simp (maxSteps:=9^7) only [seval,exC,Zfh,h1,h2]|simp (maxSteps:=9^7) (disch:=first|with_reducible assumption|omega) only [dxB]|(simp only [kdB];split)|(simp only [kvB];split))
  all_goals simp_all [ovr]
theorem ZES {a b : Nat} : dl a = dl b↔a = b:=⟨fun h => by rw [← ZaN a,h,ZaN],fun h => by rw [h]⟩
def sameD (a b : Dy) : Prop:=a.n = b.n∧a.e = b.e∧a.m = b.m
instance (a b : Dy) : Decidable (sameD a b):=inferInstanceAs (Decidable (_∧_∧_))
theorem ZsD (J : Al G T g) {z y : Bool} {a b : Dy} (hs : (dl a.m).length < 1099511627776) : run G T 14 [DyA z a,DyA y b] = some (.bool (decide (sameD a b))):=by
 have h:=Zms J (n:=a.n) (n':=b.n) (z:=z) (z':=y) (l:=dl a.m) (l':=dl b.m) (e:=a.e) (e':=b.e) hs
 simp only [ZES] at h
 exact h
theorem Bd.mono {d : Dy} {K L : Nat} (h : Bd d K) (hl : K≤L) : Bd d L:=⟨by have:=h.bl; omega,by have:=h.lo; omega,by have:=h.hi; omega⟩
theorem ZmJ {n : Bool} {m : Nat} {e : Int} {K : Nat} (h1 : blen m≤K) (h2 : -(K : Int)≤e) (h3 : e + blen m≤K) : Bd (mkD n m e) K:=by
 by_cases h : m = 0
 ·subst h; rw [Zca]; exact ⟨by simp only [Zal]; omega,by simp only; omega,by simp only; omega⟩
 ·rw [Zar h]
  have:=Zfu h
  exact ⟨by simp only [Zam]; omega,by simp only; omega,by simp only; omega⟩
theorem ZAv {n : Int} {K : Nat} (h : -(K : Int)≤n∧n≤K) (h1 : 1≤K) : Bd (twoD n) K:=⟨by show blen 1≤K; rw [show blen 1 = 1 from rfl]; exact h1,h.1,h.2⟩
theorem Zzg {d : Dy} {K : Nat} {k : Int} (h : Bd d K) {L : Nat} (h1 : -(L : Int)≤k∧k≤L) : Bd (shD d k) (K + L):=by
 obtain ⟨a,b,c⟩:=h
 unfold shD; split
 ·exact ⟨by omega,by omega,by omega⟩
 ·exact ⟨by simp only; omega,by simp only; omega,by simp only; omega⟩
theorem ZsN {d : Dy} {K : Nat} (h : Bd d K) : Bd (floorD d) (K + 1):=by
 obtain ⟨a,b,c⟩:=h
 unfold floorD; split
 ·exact ⟨by omega,by omega,by omega⟩
 ·have h1:=ZkB (d.m / 2 ^ (-d.e).toNat) (if (d.n && !decide (d.m % 2 ^ (-d.e).toNat = 0)) = true then 1 else 0)
  have h2:=Zam d.m (-d.e).toNat
  have h3 : blen (if (d.n && !decide (d.m % 2 ^ (-d.e).toNat = 0)) = true then 1 else 0)≤1:=by split <;> decide
  by_cases hz : blen d.m = 0
  ·have:=ZqF.1 hz
   rw [this]; simp only [Nat.zero_div,Nat.zero_mod,decide_true,Bool.not_true,Bool.and_false,Bool.false_eq_true,if_false,Nat.add_zero]
   rw [Zca]; exact ⟨by simp only [Zal]; omega,by simp only; omega,by simp only; omega⟩
  ·exact ZmJ (by omega) (by omega) (by omega)
theorem ZkW {a b : Dy} {K : Nat} (ha : Bd a K) (hb : Bd b K) : Bd (addD a b) (4 * K + 1):=by
 obtain ⟨a1,a2,a3⟩:=ha
 obtain ⟨b1,b2,b3⟩:=hb
 unfold addD
 have x1:=ZhZ a.m (a.e - min a.e b.e).toNat
 have x2:=ZhZ b.m (b.e - min a.e b.e).toNat
 generalize a.m * 2 ^ (a.e - min a.e b.e).toNat = A at *
 generalize b.m * 2 ^ (b.e - min a.e b.e).toNat = B at *
 have s1:=ZkB A B
 have s2:=ZaF (Nat.sub_le A B)
 have s3:=ZaF (Nat.sub_le B A)
 split
 ·exact ⟨by omega,by omega,by omega⟩
 ·split
  ·exact ⟨by omega,by omega,by omega⟩
  ·split
   ·exact ZmJ (by omega) (by omega) (by omega)
   ·split
    ·exact ZmJ (by omega) (by omega) (by omega)
    ·exact ZmJ (by omega) (by omega) (by omega)
theorem ZAu {a b : Dy} {K : Nat} (ha : Bd a K) (hb : Bd b K) : Bd (subD a b) (4 * K + 1):=ZkW ha hb.neg
def lowD (x : Dy) (u : Int) : Dy:=shD (floorD (shD x (-u))) u
def highD (x : Dy) (u : Int) : Dy:=addD (lowD x u) (twoD u)
def evenD (x : Dy) (u : Int) : Prop:=sameD (floorD (shD (shD (lowD x u) (-u)) (-1))) (shD (shD (lowD x u) (-u)) (-1))
instance (x : Dy) (u : Int) : Decidable (evenD x u):=inferInstanceAs (Decidable (sameD _ _))
def takenD (md : Int) (x : Dy) (u : Int) : Dy :=
 if sameD (lowD x u) x then x
 else if md = 5 then lowD x u
 else if md = 4 then highD x u
 else if md = 3 then (if x.n = true then highD x u else lowD x u)
 else if cmpD (subD x (lowD x u)) (subD (highD x u) x) < 0 then lowD x u
 else if 0 < cmpD (subD x (lowD x u)) (subD (highD x u) x) then highD x u
 else if md = 2 then (if x.n = true then lowD x u else highD x u)
 else if evenD x u then lowD x u else highD x u
set_option maxHeartbeats 4000000 in
theorem ZiN (J : Al G T g) {md : Int} {z : Bool} {x : Dy} {u : Int} (hx : Bd x 268435456) (hu : -268435456≤u∧u≤268435456) :
  ∃ z',run G T 34 [.int .u8 md,DyA z x,.int .i64 u] = some (DyA z' (takenD md x u)):=by
 apply exP
 rw [Zac G T J.E.ZiN]
 have bA:=Zzg hx (k := -u) (L:=268435456) (by omega)
 have bB:=ZsN bA
 have bL : Bd (lowD x u) 1073741824:=(Zzg bB (k:=u) (L:=268435456) hu).mono (by decide)
 have bT : Bd (twoD u) 1073741824:=ZAv (by omega) (by decide)
 have bH : Bd (highD x u) 5368709120:=(ZkW bL bT).mono (by decide)
 have bx : Bd x 5368709120:=hx.mono (by decide)
 have bS1:=(ZAu bx (bL.mono (by decide : 1073741824≤5368709120))).mono (by decide : 4 * 5368709120 + 1≤34359738368)
 have bS2:=(ZAu bH bx).mono (by decide : 4 * 5368709120 + 1≤34359738368)
 have bK:=Zzg bL (k := -u) (L:=268435456) (by omega)
 have bK2:=Zzg bK (k := -1) (L:=1) (by omega)
 have len : ∀ {d : Dy} {K : Nat},Bd d K→K < 34359738368→(dl d.m).length < 17179869183:=fun {d K} h hk => by
  have:=Zaa d.m; have:=h.bl; omega
 have s1:=ZeB J (z:=z) (d:=x) (k := -u) (by omega) (by have:=hx.lo; have:=hx.hi; omega)
 obtain ⟨z1,s2⟩:=ZiL J (z:=z) (d:=shD x (-u)) (len bA (by decide)) (by have:=bA.lo; have:=bA.hi; omega)
 have s3:=ZeB J (z:=z1) (d:=floorD (shD x (-u))) (k:=u) (by omega) (by have:=bB.lo; have:=bB.hi; omega)
 have s4:=ZsD J (z:=z1) (y:=z) (a:=lowD x u) (b:=x) (by have:=len bL (by decide); omega)
 have s5:=ZlM J (n:=u)
 obtain ⟨z2,s6⟩:=ZhO J (z:=z1) (y:=false) (bL.mono (by decide)) (bT.mono (by decide))
 obtain ⟨z3,s7⟩:=ZhP J (z:=z) (y:=z1) (a:=x) (b:=lowD x u) (bx.mono (by decide)) (bL.mono (by decide))
 obtain ⟨z4,s8⟩:=ZhP J (z:=z2) (y:=z) (a:=highD x u) (b:=x) (bH.mono (by decide)) (bx.mono (by decide))
 have s9:=Zoh J (z:=z3) (y:=z4) bS1 bS2
 have s10:=ZeB J (z:=z1) (d:=lowD x u) (k := -u) (by omega) (by have:=bL.lo; have:=bL.hi; omega)
 have s11:=Zmv J (z:=z1) (d:=shD (lowD x u) (-u)) (by have:=bK.lo; have:=bK.hi; omega)
 obtain ⟨z5,s12⟩:=ZiL J (z:=z1) (d:=shD (shD (lowD x u) (-u)) (-1)) (len bK2 (by decide)) (by have:=bK2.lo; have:=bK2.hi; omega)
 have s13:=ZsD J (z:=z5) (y:=z1) (a:=floorD (shD (shD (lowD x u) (-u)) (-1))) (b:=shD (shD (lowD x u) (-u)) (-1)) (by have:=len (ZsN bK2) (by decide); omega)
 clear bA bB bL bT bH bx bS1 bS2 bK bK2 len
 change run G T _ _ = some (DyA z1 (lowD x u)) at s3
 change run G T _ _ = some (DyA z2 (highD x u)) at s6
 change run G T _ _ = some (AV.bool (decide (evenD x u))) at s13
 obtain ⟨n,m,e⟩:=x
 cases n
 all_goals
  simp only [DyA,A3] at *
  repeat' (first|simp (maxSteps:=9^7) only [seval,exC,ZfL,s1,s2,s3,s4,s5,s6,s7,s8,s9,s10,s11,s12,s13,Int.zero_sub]|simp (maxSteps:=9^7) (disch:=first|with_reducible assumption|omega) only [dxB]|(simp only [kdB];split)|(simp only [kvB];split))
  all_goals clear s1 s2 s3 s4 s5 s6 s7 s8 s9 s10 s11 s12 s13
  all_goals unfold takenD
  all_goals repeat (first | rw [if_pos (by first | assumption | decide)] | rw [if_neg (by first | assumption | decide)])
  all_goals first
   | exact Post.some ⟨z,rfl⟩
   | exact Post.some ⟨z1,rfl⟩
   | exact Post.some ⟨z2,rfl⟩
end Go.Cv
