/-
 A part of the proof of the statements of this seat (texts that the law's own text leans on): no condition.
-/
import Derived.Test.YtddmoldiopnifaaGreatDoorM9
import Derived.Test.YtddmoldiopnifaaGreatDoorM8
import Derived.Test.YtddmoldiopnifaaGreatDoorM6
set_option linter.unusedVariables false
set_option linter.unusedSimpArgs false
namespace Go.Cv
variable {G : Nat→Option (List AV)} {T : Tbl} {g : Nat}
def twoD (n : Int) : Dy:=⟨false,1,n⟩
def addD (a b : Dy) : Dy :=
 if a.m = 0 then b else if b.m = 0 then a else
 if a.n = b.n then mkD a.n (a.m * 2 ^ (a.e - min a.e b.e).toNat + b.m * 2 ^ (b.e - min a.e b.e).toNat) (min a.e b.e)
 else if b.m * 2 ^ (b.e - min a.e b.e).toNat≤a.m * 2 ^ (a.e - min a.e b.e).toNat then mkD a.n (a.m * 2 ^ (a.e - min a.e b.e).toNat - b.m * 2 ^ (b.e - min a.e b.e).toNat) (min a.e b.e)
 else mkD b.n (b.m * 2 ^ (b.e - min a.e b.e).toNat - a.m * 2 ^ (a.e - min a.e b.e).toNat) (min a.e b.e)
def subD (a b : Dy) : Dy:=addD a (negD b)
def cmpD (a b : Dy) : Int :=
 if sgnD a≠sgnD b then (if sgnD a < sgnD b then -1 else 1)
 else if sgnD a = 0 then 0
 else if topD a≠topD b then (if decide (topD a < topD b) = decide (0 < sgnD a) then -1 else 1)
 else sgnD (subD a b)
structure Bd (d : Dy) (K : Nat) : Prop where
 bl : blen d.m≤K
 lo : -(K : Int)≤d.e
 hi : d.e≤K
theorem Zhv (a k : Nat) : blen (a * 2 ^ k)≤blen a + k:=by
 by_cases h : a = 0
 ·subst h; rw [Nat.zero_mul,Zai]; omega
 ·rw [Zam h]; exact Nat.le_refl _
theorem Zmw (a b : Nat) : blen (a + b)≤max (blen a) (blen b) + 1:=by
 rw [Zaf,Nat.pow_succ]
 have h1:=ZaO a
 have h2:=ZaO b
 have h3 : 2 ^ blen a≤2 ^ max (blen a) (blen b):=Nat.pow_le_pow_right (by decide) (by omega)
 have h4 : 2 ^ blen b≤2 ^ max (blen a) (blen b):=Nat.pow_le_pow_right (by decide) (by omega)
 omega
theorem Znn (J : Al G T g) {n : Int} : run G T 68 [.int .i64 n] = some (DyA false (twoD n)):=by
 rw [Zac G T J.C.Znn]
 have hb : ∀ (F : CallF) (d : Option Nat) (a c : IOpd) (os : List IOper) (e : Env) (h : Heap),evOps G F (⟨d,.build [.bool false,.nil,.int .i64 0] [(1,1,a),(2,1,c)],none⟩ :: os) e h =
  kV G F ((fillA [.bool false,.nil,.int .i64 0] [(1,1,opd e a),(2,1,opd e c)]).map .agg) d os e h:=fun F d a c os e h => ZkZ G F d os e h _ _
 have hf : fillA [.bool false,.nil,.int .i64 0] [(1,1,.own 1 0 1 1),(2,1,.int .i64 n)] = some [.bool false,.own 1 0 1 1,.int .i64 n]:=rfl
 have hs : storeV ⟨[B3 false .nil 0,oneB],[]⟩ 3 (.ptr 0 0) (A3 false (.own 1 0 1 1) n) = some (.tup [],⟨[B3 false (.own 1 0 1 1) n,oneB],[]⟩):=rfl
 have hsn : snapA (snapG (Heap.mem ⟨[B3 false (.own 1 0 1 1) n,oneB],[]⟩) 3) (A3 false (.own 1 0 1 1) n) = some (DyA false (twoD n)):=by
  have e1 : snapG (Heap.mem ⟨[B3 false (.own 1 0 1 1) n,oneB],[]⟩) 3 1 0 1 1 = some (D false [1]):=Znv (d:=2) (l:=[1]) rfl rfl
  simp only [A3,ZtC,Znw,Zpp,ZtE,ZqI,Ztz,e1,Zhh,Option.map_some,DyA,twoD,Zso]
 repeat (first | (simp (maxSteps:=9^7) only [seval,evB,ZhQ,dyB,hb,hf,ZBK,hs,hsn]) | (simp (disch:=omega) only [dsB]))
theorem ZfT (J : Al G T g) {z y : Bool} {a b : Dy} (ha : Bd a 34359738368) (hb : Bd b 34359738368) :
  ∃ z',run G T 67 [DyA z a,DyA y b] = some (DyA z' (addD a b)):=by
 obtain ⟨n,m,e⟩:=a
 obtain ⟨n',m',e'⟩:=b
 obtain ⟨ha1,ha2,ha3⟩:=ha
 obtain ⟨hb1,hb2,hb3⟩:=hb
 simp only [DyA] at *
 apply exP
 rw [Zac G T J.C.ZfT]
 have hl:=Zaa m
 have hl':=Zaa m'
 by_cases h0 : ((dl m).length : Int) = 0
 ·have hm : m = 0:=Zap.1 (by omega)
  repeat (first | (simp (maxSteps:=9^7) only [seval,evB,ZaM,dyB,h0]) | (simp (disch:=omega) only [dsB]))
  refine Post.some ⟨y,?_⟩
  simp [addD,hm]
 ·have hm : m≠0:=by rintro rfl; exact h0 (by rw [Zag]; rfl)
  by_cases h1 : ((dl m').length : Int) = 0
  ·have hm' : m' = 0:=Zap.1 (by omega)
   repeat (first | (simp (maxSteps:=9^7) only [seval,evB,ZaM,dyB,h0,h1]) | (simp (disch:=omega) only [dsB]))
   refine Post.some ⟨z,?_⟩
   simp [addD,hm,hm']
  ·have hm' : m'≠0:=by rintro rfl; exact h1 (by rw [Zag]; rfl)
   obtain ⟨p,hp⟩ : ∃ p : Nat,(p : Int) = e - min e e':=⟨(e - min e e').toNat,by omega⟩
   obtain ⟨q,hq⟩ : ∃ q : Nat,(q : Int) = e' - min e e':=⟨(e' - min e e').toNat,by omega⟩
   have hp2 : (e - min e e').toNat = p:=by omega
   have hq2 : (e' - min e e').toNat = q:=by omega
   obtain ⟨z1,hz1⟩:=Zfm J (z:=z) (a:=m) (n:=p) (by omega) (by omega)
   obtain ⟨z2,hz2⟩:=Zfm J (z:=y) (a:=m') (n:=q) (by omega) (by omega)
   have hx:=Zhv m p
   have hy:=Zhv m' q
   have hf : addD ⟨n,m,e⟩ ⟨n',m',e'⟩ = if n = n' then mkD n (m * 2 ^ p + m' * 2 ^ q) (min e e') else if m' * 2 ^ q≤m * 2 ^ p then mkD n (m * 2 ^ p - m' * 2 ^ q) (min e e') else mkD n' (m' * 2 ^ q - m * 2 ^ p) (min e e'):=by
    simp only [addD,hm,hm',if_false,hp2,hq2]
   rw [hf]
   generalize m * 2 ^ p = X at *
   generalize m' * 2 ^ q = Y at *
   have hlx:=Zaa X
   have hly:=Zaa Y
   have eqb_bb : ∀ a b : Bool,eqbA false (.bool a) (.bool b) = some (.bool (decide (a = b))):=by intro a b; cases a <;> cases b <;> rfl
   have hcmp:=ZkN J (z:=z1) (y:=z2) (a:=X) (b:=Y) (by omega) (by omega)
   obtain ⟨z3,hz3⟩:=Zhm J (z:=z1) (y:=z2) (a:=X) (b:=Y) (by omega) (by omega)
   have hfin : ∀ (M : Int),M = min e e'→Post (kE G ZaM.res (evL G T ZaM.body (numE 0 [A3 n (D z (dl m)) e,A3 n' (D y (dl m')) e']) .nil)) fun r => ∃ z,r = DyA z (if n = n' then mkD n (X + Y) M else if Y≤X then mkD n (X - Y) M else mkD n' (Y - X) M):=by
    intro M hM
    have hs1:=Zmw X Y
    have hs1l:=Zaa (X + Y)
    have hs2:=Zax (Nat.sub_le X Y)
    have hs2l:=Zaa (X - Y)
    have hs3:=Zax (Nat.sub_le Y X)
    have hs3l:=Zaa (Y - X)
    by_cases h4 : n = n'
    ·obtain ⟨z4,hz4⟩:=Zbf J (n:=n') (z:=z3) (a:=X + Y) (e:=M) (by omega) (by omega)
     subst h4
     rw [if_pos rfl]
     by_cases h2 : e' < e
     ·have hM2 : M = e':=by omega
      have hpe : e - e' = p:=by omega
      have hqe : e' - e' = q:=by omega
      rw [hM2] at hz4 ⊢
      repeat (first | (simp (maxSteps:=9^7) only [seval,evB,ZaM,dyB,h0,h1,h2,hpe,hqe,hz1,hz2,eqb_bb,hz3,hz4,DyA]) | (simp (disch:=omega) only [dsB]))
      exact Post.some ⟨z4,rfl⟩
     ·have hM2 : M = e:=by omega
      have hpe : e - e = p:=by omega
      have hqe : e' - e = q:=by omega
      rw [hM2] at hz4 ⊢
      repeat (first | (simp (maxSteps:=9^7) only [seval,evB,ZaM,dyB,h0,h1,h2,hpe,hqe,hz1,hz2,eqb_bb,hz3,hz4,DyA]) | (simp (disch:=omega) only [dsB]))
      exact Post.some ⟨z4,rfl⟩
    ·rw [if_neg h4]
     by_cases h5 : Y≤X
     ·have hc : (0 : Int)≤cmpN X Y:=by
       unfold cmpN
       rw [if_neg (by omega)]
       split <;> decide
      obtain ⟨z5,hz5⟩:=ZiS J (z:=z1) (y:=z2) (a:=X) (b:=Y) (by omega) h5
      obtain ⟨z4,hz4⟩:=Zbf J (n:=n) (z:=z5) (a:=X - Y) (e:=M) (by omega) (by omega)
      rw [if_pos h5]
      by_cases h2 : e' < e
      ·have hM2 : M = e':=by omega
       have hpe : e - e' = p:=by omega
       have hqe : e' - e' = q:=by omega
       rw [hM2] at hz4 ⊢
       repeat (first | (simp (maxSteps:=9^7) only [seval,evB,ZaM,dyB,h0,h1,h2,hpe,hqe,hz1,hz2,eqb_bb,h4,hcmp,hc,hz5,hz4,DyA]) | (simp (disch:=omega) only [dsB]))
       exact Post.some ⟨z4,rfl⟩
      ·have hM2 : M = e:=by omega
       have hpe : e - e = p:=by omega
       have hqe : e' - e = q:=by omega
       rw [hM2] at hz4 ⊢
       repeat (first | (simp (maxSteps:=9^7) only [seval,evB,ZaM,dyB,h0,h1,h2,hpe,hqe,hz1,hz2,eqb_bb,h4,hcmp,hc,hz5,hz4,DyA]) | (simp (disch:=omega) only [dsB]))
       exact Post.some ⟨z4,rfl⟩
     ·have hc : ¬ (0 : Int)≤cmpN X Y:=by rw [Zmz (by omega)]; decide
      obtain ⟨z5,hz5⟩:=ZiS J (z:=z2) (y:=z1) (a:=Y) (b:=X) (by omega) (by omega)
      obtain ⟨z4,hz4⟩:=Zbf J (n:=n') (z:=z5) (a:=Y - X) (e:=M) (by omega) (by omega)
      rw [if_neg h5]
      by_cases h2 : e' < e
      ·have hM2 : M = e':=by omega
       have hpe : e - e' = p:=by omega
       have hqe : e' - e' = q:=by omega
       rw [hM2] at hz4 ⊢
       repeat (first | (simp (maxSteps:=9^7) only [seval,evB,ZaM,dyB,h0,h1,h2,hpe,hqe,hz1,hz2,eqb_bb,h4,hcmp,hc,hz5,hz4,DyA]) | (simp (disch:=omega) only [dsB]))
       exact Post.some ⟨z4,rfl⟩
      ·have hM2 : M = e:=by omega
       have hpe : e - e = p:=by omega
       have hqe : e' - e = q:=by omega
       rw [hM2] at hz4 ⊢
       repeat (first | (simp (maxSteps:=9^7) only [seval,evB,ZaM,dyB,h0,h1,h2,hpe,hqe,hz1,hz2,eqb_bb,h4,hcmp,hc,hz5,hz4,DyA]) | (simp (disch:=omega) only [dsB]))
       exact Post.some ⟨z4,rfl⟩
   exact hfin _ rfl
theorem Bd.neg {d : Dy} {K : Nat} (h : Bd d K) : Bd (negD d) K:=by
 obtain ⟨h1,h2,h3⟩:=h
 unfold negD; split
 ·exact ⟨h1,h2,h3⟩
 ·exact ⟨h1,h2,h3⟩
theorem Znm (J : Al G T g) {z y : Bool} {a b : Dy} (ha : Bd a 34359738368) (hb : Bd b 34359738368) :
  ∃ z',run G T 70 [DyA z a,DyA y b] = some (DyA z' (subD a b)):=by
 apply exP
 rw [Zac G T J.C.Znm]
 obtain ⟨z1,hz1⟩:=ZfT J (z:=z) (y:=y) ha hb.neg
 have hz2:=Znl J (z:=y) (d:=b)
 simp only [DyA,A3] at *
 repeat' (first|simp (maxSteps:=9^7) only [seval,exC,ZhP,hz1,hz2]|simp (maxSteps:=9^7) (disch:=first|with_reducible assumption|omega) only [dxB]|(simp only [kdB];split)|(simp only [kvB];split))
 exact Post.some ⟨z1,rfl⟩
theorem Zck (J : Al G T g) {n z : Bool} {l : List Nat} (hd : Dg l) {e : Int} : run G T 22 [A3 n (D z l) e] = some (.int .i64 (if mayD n l e = false∨l.length = 0 then 0 else if n then -1 else 1)):=by
 rw [Zac G T J.C.Zck]
 have hm:=Zcu J n z hd e
 simp only [DyA,A3] at *
 cases h : mayD n l e
 all_goals
  rw [h] at hm
  by_cases h2 : l.length = 0
  all_goals
   cases n
   all_goals
    repeat' (first|simp (maxSteps:=9^7) only [seval,exC,Zhy,hm]|simp (maxSteps:=9^7) (disch:=first|with_reducible assumption|omega) only [dxB]|(simp only [kdB];split)|(simp only [kvB];split))
    all_goals simp [h2]
theorem Znk (J : Al G T g) {z y : Bool} {a b : Dy} (ha : Bd a 34359738368) (hb : Bd b 34359738368) :
  run G T 69 [DyA z a,DyA y b] = some (.int .i64 (cmpD a b)):=by
 rw [Zac G T J.C.Znk]
 obtain ⟨z1,hz1⟩:=Znm J (z:=z) (y:=y) ha hb
 have s1:=Zhn J (z:=z) (d:=a)
 have s2:=Zhn J (z:=y) (d:=b)
 have s3:=Zhn J (z:=z1) (d:=subD a b)
 have l1:=Zaa a.m
 have l2:=Zaa b.m
 obtain ⟨a1,a2,a3⟩:=ha
 obtain ⟨b1,b2,b3⟩:=hb
 have t1:=ZkQ J (z:=z) (d:=a) (by omega) (by omega)
 have t2:=ZkQ J (z:=y) (d:=b) (by omega) (by omega)
 simp only [DyA,A3] at *
 repeat' (first|simp (maxSteps:=9^7) only [seval,exC,ZhN,hz1,s1,s2,s3,t1,t2]|simp (maxSteps:=9^7) (disch:=first|with_reducible assumption|omega) only [dxB]|(simp only [kdB];split)|(simp only [kvB];split))
 all_goals simp_all [cmpD]
 all_goals omega
inductive Fm where
 | s | d
 deriving DecidableEq
def Fm.u : Fm→Int | .s => 1 | .d => 2
def Fm.fr : Fm→Nat | .s => 23 | .d => 52
def Fm.low : Fm→Int | .s => -149 | .d => -1074
def Fm.wide : Fm→Int | .s => 128 | .d => 1024
def Fm.most : Fm→Nat | .s => 255 | .d => 2047
def Fm.sg : Fm→Nat | .s => 2147483648 | .d => 9223372036854775808
theorem ZET {f : Int} (h : f = 1∨f = 2) : ∃ F : Fm,f = F.u:=by
 rcases h with rfl | rfl
 ·exact ⟨.s,rfl⟩
 ·exact ⟨.d,rfl⟩
theorem Zmj (J : Al G T g) {f : Int} : run G T 27 [.int .u8 f] = some (.bool (decide (f = 1∨f = 2))):=by
 rw [Zac G T J.D.Zmj]
 repeat' (first|simp (maxSteps:=9^7) only [seval,exC,Zjk]|simp (maxSteps:=9^7) (disch:=first|with_reducible assumption|omega) only [dxB]|(simp only [kdB];split)|(simp only [kvB];split))
 all_goals simp_all
theorem Zho (J : Al G T g) (F : Fm) : run G T 31 [.int .u8 F.u] = some (.int .i64 (F.fr : Int)):=by
 rw [Zac G T J.D.Zho]
 cases F <;> (simp only [Fm.u,Fm.fr]; repeat' (first|simp (maxSteps:=9^7) only [seval,exC,Zgp]|simp (maxSteps:=9^7) (disch:=first|with_reducible assumption|omega) only [dxB]|(simp only [kdB];split)|(simp only [kvB];split)))
theorem ZkS (J : Al G T g) (F : Fm) : run G T 33 [.int .u8 F.u] = some (.int .i64 F.low):=by
 rw [Zac G T J.D.ZkS]
 cases F <;> (simp only [Fm.u,Fm.low]; repeat' (first|simp (maxSteps:=9^7) only [seval,exC,ZhR]|simp (maxSteps:=9^7) (disch:=first|with_reducible assumption|omega) only [dxB]|(simp only [kdB];split)|(simp only [kvB];split)))
theorem Zlw (J : Al G T g) (F : Fm) : run G T 63 [.int .u8 F.u] = some (.int .i64 (F.most : Int)):=by
 rw [Zac G T J.D.Zlw]
 cases F <;> (simp only [Fm.u,Fm.most]; repeat' (first|simp (maxSteps:=9^7) only [seval,exC,Zgq]|simp (maxSteps:=9^7) (disch:=first|with_reducible assumption|omega) only [dxB]|(simp only [kdB];split)|(simp only [kvB];split)))
theorem Zlx (J : Al G T g) (F : Fm) : run G T 73 [.int .u8 F.u] = some (.int .u64 (F.sg : Int)):=by
 rw [Zac G T J.D.Zlx]
 cases F <;> (simp only [Fm.u,Fm.sg]; repeat' (first|simp (maxSteps:=9^7) only [seval,exC,Zgr]|simp (maxSteps:=9^7) (disch:=first|with_reducible assumption|omega) only [dxB]|(simp only [kdB];split)|(simp only [kvB];split)))
def Fm.sgn (F : Fm) (n : Bool) : Nat:=if n then F.sg else 0
def fldA (n : Bool) (x w : Int) : AV:=.agg [.bool n,.int .i64 x,.int .u64 w]
def Fm.inf (F : Fm) (n : Bool) : Nat:=F.most * 2 ^ F.fr + F.sgn n
def shA (F : Fm) : AV:=.agg [.int .i64 (F.fr : Int),.int .i64 (F.most : Int),.int .u64 (F.sg : Int)]
theorem or64z {x : Int} (h : 0≤x∧x < 18446744073709551616) : orI .u64 0 x = x:=by
 obtain ⟨n,rfl⟩:=Int.eq_ofNat_of_zero_le h.1
 have:=or64 (a:=0) (b:=n) (by decide) (by omega)
 rw [cast0] at this; rw [this]; simp
theorem ZwJ {x : Int} (h : 0≤x∧x < 2147483648) : orI .u64 x 2147483648 = x + 2147483648:=by
 obtain ⟨n,rfl⟩:=Int.eq_ofNat_of_zero_le h.1
 have:=or64 (a:=n) (b:=2147483648) (by omega) (by decide)
 rw [Int.cast_ofNat_Int] at this; rw [this]
 have e:=ZkI (c:=n) (x:=1) (s:=31) (by omega)
 rw [Nat.one_mul] at e
 rw [show (2147483648 : Nat) = 2 ^ 31 from rfl,e]; omega
theorem ZwK {x : Int} (h : 0≤x∧x < 9223372036854775808) : orI .u64 x 9223372036854775808 = x + 9223372036854775808:=by
 obtain ⟨n,rfl⟩:=Int.eq_ofNat_of_zero_le h.1
 have:=or64 (a:=n) (b:=9223372036854775808) (by omega) (by decide)
 rw [Int.cast_ofNat_Int] at this; rw [this]
 have e:=ZkI (c:=n) (x:=1) (s:=63) (by omega)
 rw [Nat.one_mul] at e
 rw [show (9223372036854775808 : Nat) = 2 ^ 63 from rfl,e]; omega
theorem ZgK (J : Al G T g) (F : Fm) : run G T 115 [.int .u8 F.u] = some (.tup [shA F,.bool true]):=by
 rw [Zac G T J.D.ZgK]
 cases F <;> (simp only [shA,Fm.u,Fm.fr,Fm.most,Fm.sg,Int.cast_ofNat_Int]; repeat' (first|simp (maxSteps:=9^7) only [seval,exC,Zen]|simp (maxSteps:=9^7) (disch:=first|with_reducible assumption|omega) only [dxB]|(simp only [kdB];split)|(simp only [kvB];split)))
theorem ZlH (J : Al G T g) (F : Fm) : run G T 95 [.int .u8 F.u,.nil] = some (.tup [shA F,.int .i64 0]):=by
 rw [Zac G T J.D.word_open]
 have h1:=ZgK (G:=G) J F
 have hl : ∀ (e : Env) (h : Heap),evL G T ZbQ e h = kS G T (evL G T Zbn (keepE [4,6,18,19,20] e) h) ZbQ:=fun e h => Zae G T (c:=ZbQ) rfl e h
 simp only [shA] at *
 repeat' (first|simp (maxSteps:=9^7) only [seval,exC,ZcQ,h1,hl,Zbn]|simp (maxSteps:=9^7) (disch:=first|with_reducible assumption|omega) only [dxB]|(simp only [kdB];split)|(simp only [kvB];split))
theorem Zlg (J : Al G T g) (F : Fm) : run G T 60 [shA F] = some (.int .u64 ((F.most * 2 ^ F.fr : Nat) : Int)):=by
 rw [Zac G T J.D.word_shape_inf]
 cases F <;> (simp only [shA,Fm.u,Fm.fr,Fm.most,Fm.sg,Int.cast_ofNat_Int]; repeat' (first|simp (maxSteps:=9^7) only [seval,exC,ZcJ]|simp (maxSteps:=9^7) (disch:=first|with_reducible assumption|omega) only [dxB]|(simp only [kdB];split)|(simp only [kvB];split)))
theorem Zua (J : Al G T g) (F : Fm) : run G T 96 [shA F] = some (.int .i64 F.low):=by
 rw [Zac G T J.D.word_shape_low]
 cases F <;> (simp only [shA,Fm.u,Fm.fr,Fm.most,Fm.sg,Fm.low,Int.cast_ofNat_Int]; repeat' (first|simp (maxSteps:=9^7) only [seval,exC,ZcK]|simp (maxSteps:=9^7) (disch:=first|with_reducible assumption|omega) only [dxB]|(simp only [kdB];split)|(simp only [kvB];split)))
theorem ZuD (J : Al G T g) (F : Fm) {n : Bool} {w : Nat} (hw : w < F.sg) :
  run G T 97 [shA F,fldA n 0 w] = some (.int .u64 ((w + F.sgn n : Nat) : Int)):=by
 rw [Zac G T J.D.word_shape_join]
 cases F <;> cases n <;> (
  simp only [shA,Fm.u,Fm.fr,Fm.sg,Fm.most,fldA,Fm.sgn,Int.cast_ofNat_Int] at *
  repeat' (first|simp (maxSteps:=9^7) only [seval,exC,Zcr ]|simp (maxSteps:=9^7) (disch:=first|with_reducible assumption|omega) only [dxB,or64z,ZwJ,ZwK]|(simp only [kdB];split)|(simp only [kvB];split))
  all_goals (refine Zmm ?_; try simp))
theorem ZuF (J : Al G T g) (F : Fm) : run G T 98 [shA F] = some (.int .u64 0):=by
 rw [Zac G T J.D.word_Zero_1]
 simp only [shA]; repeat' (first|simp (maxSteps:=9^7) only [seval,exC,Zfi]|simp (maxSteps:=9^7) (disch:=first|with_reducible assumption|omega) only [dxB]|(simp only [kdB];split)|(simp only [kvB];split))
theorem ZnL (J : Al G T g) (F : Fm) : run G T 59 [shA F] = some (.int .u64 ((F.most * 2 ^ F.fr - 1 : Nat) : Int)):=by
 rw [Zac G T J.D.word_Greatest_1]
 have h:=Zlg (G:=G) J F
 cases F <;> (simp only [shA,Fm.u,Fm.fr,Fm.most,Fm.sg,Int.cast_ofNat_Int,Nat.reducePow,Nat.reduceMul] at *; repeat' (first|simp (maxSteps:=9^7) only [seval,exC,Zcq,h]|simp (maxSteps:=9^7) (disch:=first|with_reducible assumption|omega) only [dxB]|(simp only [kdB];split)|(simp only [kvB];split)))
theorem Zfy (J : Al G T g) (F : Fm) {n : Bool} {k x : Nat} (hk : run G T k [shA F] = some (.int .u64 (x : Int))) (hx : x < F.sg) :
  run G T 58 [.int .u8 F.u,.bool n,.fn k []] = some (.tup [.int .u64 ((x + F.sgn n : Nat) : Int),.int .i64 0]):=by
 rw [Zac G T J.D.Zfy]
 have h1:=ZlH (G:=G) J F
 cases F <;> cases n <;> (
  simp only [shA,Fm.u,Fm.fr,Fm.sg,Fm.most,Fm.sgn,Int.cast_ofNat_Int] at *
  repeat' (first|simp (maxSteps:=9^7) only [seval,exC,Zgw,h1,hk ]|simp (maxSteps:=9^7) (disch:=first|with_reducible assumption|omega) only [dxB,ZwJ,ZwK]|(simp only [kdB];split)|(simp only [kvB];split))
  all_goals (refine congrArg (fun x : Int => some (AV.tup [.int .u64 x,.int .i64 0])) ?_; try simp))
theorem Zjb (J : Al G T g) (F : Fm) {n : Bool} : run G T 57 [.int .u8 F.u,.bool n] = some (.tup [.int .u64 ((F.sgn n : Nat) : Int),.int .i64 0]):=by
 rw [Zac G T J.D.Zjb]
 have h:=Zfy (G:=G) J F (n:=n) (k:=98) (x:=0) (ZuF J F) (by cases F <;> decide)
 rw [Nat.zero_add] at h
 repeat' (first|simp (maxSteps:=9^7) only [seval,exC,ZhX,h]|simp (maxSteps:=9^7) (disch:=first|with_reducible assumption|omega) only [dxB]|(simp only [kdB];split)|(simp only [kvB];split))
theorem Zin (J : Al G T g) (F : Fm) {n : Bool} : run G T 26 [.int .u8 F.u,.bool n] = some (.tup [.int .u64 ((F.inf n : Nat) : Int),.int .i64 0]):=by
 rw [Zac G T J.D.Zin]
 have h:=Zfy (G:=G) J F (n:=n) (k:=60) (Zlg J F) (by cases F <;> decide)
 repeat' (first|simp (maxSteps:=9^7) only [seval,exC,Zjm,h]|simp (maxSteps:=9^7) (disch:=first|with_reducible assumption|omega) only [dxB]|(simp only [kdB];split)|(simp only [kvB];split))
 rfl
theorem Zim (J : Al G T g) (F : Fm) {n : Bool} : run G T 25 [.int .u8 F.u,.bool n] = some (.tup [.int .u64 ((F.inf n - 1 : Nat) : Int),.int .i64 0]):=by
 rw [Zac G T J.D.Zim]
 have h:=Zfy (G:=G) J F (n:=n) (k:=59) (ZnL J F) (by cases F <;> decide)
 repeat' (first|simp (maxSteps:=9^7) only [seval,exC,Zdv,h]|simp (maxSteps:=9^7) (disch:=first|with_reducible assumption|omega) only [dxB]|(simp only [kdB];split)|(simp only [kvB];split))
 cases F <;> cases n <;> rfl
def Fm.unit (F : Fm) (d : Dy) : Int:=max (d.e + blen d.m - F.fr - 1) F.low
def Fm.fits (F : Fm) (d : Dy) : Prop:=d.m≠0∧blen d.m≤F.fr + 1∧F.low≤d.e∧d.e + blen d.m≤F.wide
def Fm.enc (F : Fm) (n : Nat) (u : Int) : Nat:=(u - F.low).toNat * 2 ^ F.fr + n
theorem Zsx {F : Fm} {d : Dy} (h : F.fits d) : F.unit d≤d.e∧F.low≤F.unit d∧blen (d.m * 2 ^ (d.e - F.unit d).toNat)≤F.fr + 1∧(F.unit d = F.low∨2 ^ F.fr≤d.m * 2 ^ (d.e - F.unit d).toNat)∧(F.unit d - F.low).toNat + 1 < F.most:=by
 obtain ⟨h0,h1,h2,h3⟩:=h
 have e1 : F.unit d≤d.e:=by unfold Fm.unit; omega
 have e2 : F.low≤F.unit d:=by unfold Fm.unit; omega
 have hb:=Zam h0 (d.e - F.unit d).toNat
 refine ⟨e1,e2,?_,?_,?_⟩
 ·rw [hb]; unfold Fm.unit at *; omega
 ·by_cases hu : F.unit d = F.low
  ·exact Or.inl hu
  ·right
   apply Zau.1
   rw [hb]; unfold Fm.unit at *; omega
 ·cases F <;> simp only [Fm.unit,Fm.fr,Fm.low,Fm.wide,Fm.most] at * <;> omega
theorem ZzA {F : Fm} {d : Dy} (h : F.fits d) : F.enc (d.m * 2 ^ (d.e - F.unit d).toNat) (F.unit d) < F.most * 2 ^ F.fr:=by
 obtain ⟨h1,h2,h3,h4,h5⟩:=Zsx h
 have:=Zaf.1 h3
 rw [Nat.pow_succ] at this
 unfold Fm.enc
 have h6 : ((F.unit d - F.low).toNat + 2) * 2 ^ F.fr≤F.most * 2 ^ F.fr:=Nat.mul_le_mul_right _ (by omega)
 rw [Nat.add_mul] at h6
 omega
theorem ZDF {k : Int} {n : Nat} (h : k.toNat≤n) : min k.toNat n = k.toNat:=Nat.min_eq_left h
theorem ZCg {m : Nat} {k : Int} (hk : k.toNat≤64) (h : m * 2 ^ k.toNat < 18446744073709551616) : IntKind.u64.wrap ((m : Int) * 2 ^ (min k.toNat 64)) = ((m * 2 ^ k.toNat : Nat) : Int):=by
 rw [ZDF hk,ZaS,← Int.natCast_mul,Zfr]
 omega
theorem ZpB (J : Al G T g) (F : Fm) {z : Bool} {d : Dy} (hm : mayD d.n (dl d.m) d.e = true) (hf : F.fits d) :
  run G T 56 [.int .u8 F.u,DyA z d] = some (.tup [.int .u64 ((F.enc (d.m * 2 ^ (d.e - F.unit d).toNat) (F.unit d) + F.sgn d.n : Nat) : Int),.int .i64 0]):=by
 rw [Zac G T J.D.ZpB]
 have hl:=Zsx hf
 have he:=ZzA hf
 obtain ⟨n,m,e⟩:=d
 obtain ⟨hf0,hf1,hf2,hf3⟩:=hf
 obtain ⟨hl1,hl2,hl3,hl4,hl5⟩:=hl
 simp only at *
 have hmb:=Zaf.1 hf1
 have h1:=ZlH (G:=G) J F
 have h2:=Zcu (G:=G) J n z (Zas m) e
 rw [hm] at h2
 have m64 : m < 18446744073709551616:=Nat.lt_of_lt_of_le hmb (by cases F <;> decide)
 have h3:=Znb J (z:=z) m64
 have h4:=Zft J m64
 have h5:=Zua (G:=G) J F
 have hx:=Zaf.1 hl3
 have hb64 : F.most * 2 ^ F.fr≤F.sg:=by cases F <;> decide
 have h6:=ZuD (G:=G) J F (n:=n) (w:=F.enc (m * 2 ^ (e - F.unit ⟨n,m,e⟩).toNat) (F.unit ⟨n,m,e⟩)) (by omega)
 have hu : max (e + blen m - F.fr - 1) F.low = F.unit ⟨n,m,e⟩:=rfl
 have hw1 : e≤1024:=by cases F <;> simp only [Fm.wide] at hf3 <;> omega
 generalize hU : F.unit ⟨n,m,e⟩ = u at *
 have hX : m * 2 ^ (e - u).toNat < 18446744073709551616:=Nat.lt_of_lt_of_le hx (by cases F <;> decide)
 have hs:=fun (hk : (e - u).toNat≤64) => ZCg hk hX
 generalize m * 2 ^ (e - u).toNat = X at *
 have hne : ¬ (m : Int) = 0:=by omega
 cases F
 ·simp only [Fm.u,Fm.fr,Fm.sg,Fm.most,Fm.low,Fm.wide,Fm.enc,shA,fldA,DyA,A3,Int.cast_ofNat_Int,Nat.reducePow] at *
  have hs':=hs (by omega)
  rw [Zfr] at hs'
  have hW : ((u - -149) % 18446744073709551616 * 8388608 % 18446744073709551616 + X) % 18446744073709551616 = (((u - -149).toNat * 8388608 + X : Nat) : Int):=by omega
  repeat' (first|simp (maxSteps:=9^7) only [seval,exC,Zhg,h1,h2,h3,h4,h5,hu,hs',hW,h6 ]|simp (maxSteps:=9^7) (disch:=first|with_reducible assumption|omega) only [dxB,hu]|(simp only [kdB];split)|(simp only [kvB];split))
 ·simp only [Fm.u,Fm.fr,Fm.sg,Fm.most,Fm.low,Fm.wide,Fm.enc,shA,fldA,DyA,A3,Int.cast_ofNat_Int,Nat.reducePow] at *
  have hs':=hs (by omega)
  rw [Zfr] at hs'
  have hW : ((u - -1074) % 18446744073709551616 * 4503599627370496 % 18446744073709551616 + X) % 18446744073709551616 = (((u - -1074).toNat * 4503599627370496 + X : Nat) : Int):=by omega
  repeat' (first|simp (maxSteps:=9^7) only [seval,exC,Zhg,h1,h2,h3,h4,h5,hu,hs',hW,h6 ]|simp (maxSteps:=9^7) (disch:=first|with_reducible assumption|omega) only [dxB,hu]|(simp only [kdB];split)|(simp only [kvB];split))
theorem ZqV (J : Al G T g) (F : Fm) {z : Bool} : run G T 56 [.int .u8 F.u,DyA z ⟨false,0,0⟩] = some (.tup [.int .u64 0,.int .i64 0]):=by
 rw [Zac G T J.D.ZpB]
 have h1:=ZlH (G:=G) J F
 have h2:=Zcu (G:=G) J false z (Zas 0) 0
 rw [show mayD false (dl 0) 0 = true by rw [Zag]; rfl] at h2
 have h3:=Znb J (z:=z) (a:=0) (by decide)
 have h4:=Zft J (x:=0) (by decide)
 rw [Zai] at h4
 cases F <;> (
  simp only [shA,DyA,A3,cast0,Fm.u,Fm.fr,Fm.sg,Fm.most,Int.cast_ofNat_Int] at *
  repeat' (first|simp (maxSteps:=9^7) only [seval,exC,Zhg,h1,h2,h3,h4]|simp (maxSteps:=9^7) (disch:=first|with_reducible assumption|omega) only [dxB]|(simp only [kdB];split)|(simp only [kvB];split)))
def upB (md : Int) (neg odd half more : Bool) : Bool :=
 if md = 1 then half && (more || odd) else if md = 2 then half else if md = 4 then !neg && (half || more) else if md = 5 then neg && (half || more) else false
def halfN (M k : Nat) : Bool:=decide (M / 2 ^ (k - 1) % 2 = 1)
def moreN (M : Nat) (s : Bool) (k : Nat) : Bool:=s || decide (M % 2 ^ (k - 1)≠0)
def rdN (md : Int) (neg : Bool) (M : Nat) (s : Bool) (k : Nat) : Nat × Bool :=
 (M / 2 ^ k + (upB md neg (decide (M / 2 ^ k % 2 = 1)) (halfN M k) (moreN M s k)).toNat,!halfN M k && !moreN M s k)
def rnd (md : Int) (neg : Bool) (M : Nat) (E u : Int) : Nat × Bool :=
 if u≤E then (M * 2 ^ (E - u).toNat,true) else rdN md neg M false (u - E).toNat
theorem ZjV (M j k : Nat) : (M % 2 ^ (j + k) = 0)↔(M % 2 ^ j = 0∧M / 2 ^ j % 2 ^ k = 0):=by
 rw [Nat.pow_add,Nat.mod_mul]
 have hp : 0 < 2 ^ j:=Nat.two_pow_pos j
 constructor
 ·intro h
  have h1 : M % 2 ^ j = 0:=by omega
  refine ⟨h1,?_⟩
  rw [h1,Nat.zero_add] at h
  rcases Nat.mul_eq_zero.1 h with h2 | h2
  ·omega
  ·exact h2
 ·rintro ⟨h1,h2⟩; rw [h1,h2]; rfl
theorem Zni (md : Int) (neg : Bool) (M : Nat) (s : Bool) (j k : Nat) (hk : 0 < k) :
  rdN md neg (M / 2 ^ j) (s || decide (M % 2 ^ j≠0)) k = rdN md neg M s (j + k):=by
 obtain ⟨i,rfl⟩ : ∃ i,k = i + 1:=⟨k - 1,by omega⟩
 have e1 : ∀ i,M / 2 ^ j / 2 ^ i = M / 2 ^ (j + i):=fun i => by rw [Nat.div_div_eq_div_mul,← Nat.pow_add]
 have e2 : halfN (M / 2 ^ j) (i + 1) = halfN M (j + (i + 1)):=by
  simp only [halfN,e1]
  rw [show j + (i + 1 - 1) = j + (i + 1) - 1 by omega]
 have e3 : moreN (M / 2 ^ j) (s || decide (M % 2 ^ j≠0)) (i + 1) = moreN M s (j + (i + 1)):=by
  simp only [moreN]
  rw [show j + (i + 1) - 1 = j + i by omega,show i + 1 - 1 = i by omega,Bool.or_assoc]
  congr 1
  have:=ZjV M j i
  rw [Bool.eq_iff_iff]
  simp only [Bool.or_eq_true,decide_eq_true_eq,ne_eq,this]
  by_cases h : M % 2 ^ j = 0 <;> simp [h]
 simp only [rdN,e1,e2,e3]
theorem ZhY {M j k : Nat} (h : k≤j) : M * 2 ^ j / 2 ^ k = M * 2 ^ (j - k):=by
 obtain ⟨i,rfl⟩ : ∃ i,j = k + i:=⟨j - k,by omega⟩
 rw [Nat.pow_add,Nat.mul_comm (2 ^ k),← Nat.mul_assoc,Nat.mul_div_cancel _ (Nat.two_pow_pos k),show k + i - k = i by omega]
theorem ZjW {M j k : Nat} (h : k≤j) : M * 2 ^ j % 2 ^ k = 0:=by
 obtain ⟨i,rfl⟩ : ∃ i,j = k + i:=⟨j - k,by omega⟩
 rw [Nat.pow_add,Nat.mul_comm (2 ^ k),← Nat.mul_assoc]; exact Nat.mul_mod_left ..
theorem Zgx {M j k : Nat} (h : j≤k) : M * 2 ^ j / 2 ^ k = M / 2 ^ (k - j):=by
 obtain ⟨i,rfl⟩ : ∃ i,k = j + i:=⟨k - j,by omega⟩
 rw [Nat.pow_add,← Nat.div_div_eq_div_mul,Nat.mul_div_cancel _ (Nat.two_pow_pos j),show j + i - j = i by omega]
theorem ZiM {M j k : Nat} (h : j≤k) : M * 2 ^ j % 2 ^ k = M % 2 ^ (k - j) * 2 ^ j:=by
 obtain ⟨i,rfl⟩ : ∃ i,k = j + i:=⟨k - j,by omega⟩
 rw [Nat.pow_add,Nat.mul_comm (2 ^ j),Nat.mul_mod_mul_right,show j + i - j = i by omega]
theorem ZAh (md : Int) (neg : Bool) (M j k : Nat) (hk : 0 < k) :
  rdN md neg (M * 2 ^ j) false k = if k≤j then (M * 2 ^ (j - k),true) else rdN md neg M false (k - j):=by
 obtain ⟨i,rfl⟩ : ∃ i,k = i + 1:=⟨k - 1,by omega⟩
 by_cases h : i + 1≤j
 ·rw [if_pos h]
  have e1 : halfN (M * 2 ^ j) (i + 1) = false:=by
   simp only [halfN,Nat.add_sub_cancel]
   rw [ZhY (by omega),show j - i = (j - i - 1) + 1 by omega,Nat.pow_succ,← Nat.mul_assoc,Nat.mul_mod_left]; rfl
  have e2 : moreN (M * 2 ^ j) false (i + 1) = false:=by
   simp only [moreN,Nat.add_sub_cancel,Bool.false_or]
   rw [ZjW (by omega)]; rfl
  have e3 : ∀ a b,upB md a b false false = false:=by intro a b; simp [upB]
  simp only [rdN,e1,e2,e3,ZhY h]; rfl
 ·rw [if_neg h]
  have e1 : halfN (M * 2 ^ j) (i + 1) = halfN M (i + 1 - j):=by
   simp only [halfN]
   rw [Zgx (by omega),show i + 1 - 1 - j = i + 1 - j - 1 by omega]
  have e2 : moreN (M * 2 ^ j) false (i + 1) = moreN M false (i + 1 - j):=by
   simp only [moreN,Bool.false_or]
   rw [ZiM (by omega),show i + 1 - 1 - j = i + 1 - j - 1 by omega]
   have hp:=Nat.two_pow_pos j
   congr 1
   apply propext
   constructor
   ·intro h1 h2; apply h1; rw [h2,Nat.zero_mul]
   ·intro h1 h2
    rcases Nat.mul_eq_zero.1 h2 with h3 | h3
    ·exact h1 h3
    ·omega
  simp only [rdN,e1,e2,Zgx (show j≤i + 1 by omega)]
theorem Zmh (md : Int) (neg : Bool) {M : Nat} (hM : M≠0) (E u : Int) (hu : E + blen M - 64 < u) :
  rdN md neg (if blen M≤64 then M * 2 ^ (64 - blen M) else M / 2 ^ (blen M - 64)) (if blen M≤64 then false else decide (M % 2 ^ (blen M - 64)≠0)) (u - (E + blen M) + 64).toNat = rnd md neg M E u:=by
 by_cases h : blen M≤64
 ·rw [if_pos h,if_pos h,ZAh _ _ _ _ _ (by omega)]
  unfold rnd
  by_cases h2 : u≤E
  ·rw [if_pos h2,if_pos (by omega),show 64 - blen M - (u - (E + blen M) + 64).toNat = (E - u).toNat by omega]
  ·rw [if_neg h2,if_neg (by omega),show (u - (E + blen M) + 64).toNat - (64 - blen M) = (u - E).toNat by omega]
 ·rw [if_neg h,if_neg h]
  have:=Zni md neg M false (blen M - 64) (u - (E + blen M) + 64).toNat (by omega)
  rw [Bool.false_or] at this
  rw [this]
  unfold rnd
  rw [if_neg (by omega),show blen M - 64 + (u - (E + blen M) + 64).toNat = (u - E).toNat by omega]
def ovr (F : Fm) (md : Int) (neg : Bool) : Nat:=if md = 3∨(md = 4∧neg = true)∨(md = 5∧neg = false) then F.inf neg - 1 else F.inf neg
def wordOf (F : Fm) (md : Int) (neg : Bool) (n : Nat) (ex : Bool) (e top : Int) (fine : Nat) : Nat × Nat :=
 if F.wide < blen n + e then (ovr F md neg,20)
 else (F.enc n e + F.sgn neg,if ex then 0 else if blen fine + (top - F.fr - 1) < F.low + F.fr + 1 then 24 else 16)
def Fm.eOf (F : Fm) (top : Int) : Int:=max (top - F.fr - 1) F.low
def rndW (F : Fm) (md : Int) (d : Dy) : Nat × Nat :=
 if d.m = 0 then (0,0) else
 let top:=d.e + blen d.m
 let r:=rnd md d.n d.m d.e (F.eOf top)
 wordOf F md d.n r.1 r.2 (F.eOf top) top (rnd md d.n d.m d.e (top - F.fr - 1)).1
def fmA (F : Fm) : AV:=.agg [.int .i64 ((F.fr : Int) + 1),.int .i64 F.low,.int .i64 F.wide]
theorem ZeI (J : Al G T g) (F : Fm) : run G T 47 [.int .u8 F.u] = some (.tup [fmA F,.bool true]):=by
 rw [Zac G T J.E.ZeI]
 cases F <;> (simp only [fmA,Fm.u,Fm.fr,Fm.low,Fm.wide,Int.cast_ofNat_Int,Int.reduceAdd]; repeat' (first|simp (maxSteps:=9^7) only [seval,exC,Zej]|simp (maxSteps:=9^7) (disch:=first|with_reducible assumption|omega) only [dxB]|(simp only [kdB];split)|(simp only [kvB];split)))
theorem iad10 (a b c : AV) (k : IntKind) : iaddrV 3 (.imm 1 [a,b,c]) (.int k 0) = some (.iptr [a,b,c] 0):=rfl
theorem iad20 (a b c a' b' c' : AV) (k : IntKind) : iaddrV 3 (.imm 2 [a,b,c,a',b',c']) (.int k 0) = some (.iptr [a,b,c,a',b',c'] 0):=rfl
theorem iad21 (a b c a' b' c' : AV) (k : IntKind) : iaddrV 3 (.imm 2 [a,b,c,a',b',c']) (.int k 1) = some (.iptr [a,b,c,a',b',c'] 3):=rfl
theorem Zlv : ∀ (e : Env) (h : Heap),evL G T Zdr e h = kS G T (evL G T Zci (keepE [6,8,27,28,29] e) h) Zdr:=fun e h => Zae G T (c:=Zdr) rfl e h
theorem ZrF (J : Al G T g) (F : Fm) {m : Int} (h : 1≤m∧m≤5) : run G T 21 [.int .u8 F.u,.int .u8 m,.nil] = some (.tup [fmA F,.int .i64 0]):=by
 rw [Zac G T J.E.round_open]
 have h1:=ZeI (G:=G) J F
 simp only [fmA] at *
 repeat' (first|simp (maxSteps:=9^7) only [seval,exC,ZcX,h1,Zlv,Zci]|simp (maxSteps:=9^7) (disch:=first|with_reducible assumption|omega) only [dxB]|(simp only [kdB];split)|(simp only [kvB];split))
theorem Zkd (J : Al G T g) (F : Fm) {m : Int} (h : 1≤m∧m≤5) {n z : Bool} {l : List Nat} (hd : Dg l) {e : Int} :
  run G T 21 [.int .u8 F.u,.int .u8 m,.imm 1 [.bool n,D z l,.int .i64 e]] = some (.tup [fmA F,.int .i64 (if mayD n l e then 0 else 2)]):=by
 rw [Zac G T J.E.round_open]
 have h1:=ZeI (G:=G) J F
 have h2:=Zcu (G:=G) J n z hd e
 simp only [fmA,A3] at *
 cases hm : mayD n l e <;> (
  rw [hm] at h2
  repeat' (first|simp (maxSteps:=9^7) only [seval,exC,ZcX,h1,h2,Zlv,Zci,iad10,iad20,iad21,ZBN]|simp (maxSteps:=9^7) (disch:=first|with_reducible assumption|omega) only [dxB]|(simp only [kdB];split)|(simp only [kvB];split))
  all_goals rfl)
theorem ZrG (J : Al G T g) (F : Fm) {m : Int} (h : 1≤m∧m≤5) {n z n' z' : Bool} {l l' : List Nat} (hd : Dg l) (hd' : Dg l') {e e' : Int} :
  run G T 21 [.int .u8 F.u,.int .u8 m,.imm 2 [.bool n,D z l,.int .i64 e,.bool n',D z' l',.int .i64 e']] = some (.tup [fmA F,.int .i64 (if mayD n l e && mayD n' l' e' then 0 else 2)]):=by
 rw [Zac G T J.E.round_open]
 have h1:=ZeI (G:=G) J F
 have h2:=Zcu (G:=G) J n z hd e
 have h3:=Zcu (G:=G) J n' z' hd' e'
 simp only [fmA,A3] at *
 cases hm : mayD n l e <;> cases hm' : mayD n' l' e' <;> (
  rw [hm] at h2
  rw [hm'] at h3
  repeat' (first|simp (maxSteps:=9^7) only [seval,exC,ZcX,h1,h2,h3,Zlv,Zci,iad10,iad20,iad21,ZBN]|simp (maxSteps:=9^7) (disch:=first|with_reducible assumption|omega) only [dxB]|(simp only [kdB];split)|(simp only [kvB];split))
  all_goals rfl)
theorem ZkV (J : Al G T g) {m : Int} {neg odd half more : Bool} : run G T 93 [.int .u8 m,.bool neg,.bool odd,.bool half,.bool more] = some (.bool (upB m neg odd half more)):=by
 rw [Zac G T J.E.ZkV]
 by_cases h1 : m = 1
 ·subst h1
  cases odd <;> cases more <;> (repeat' (first|simp (maxSteps:=9^7) only [seval,exC,ZcY]|simp (maxSteps:=9^7) (disch:=first|with_reducible assumption|omega) only [dxB]|(simp only [kdB];split)|(simp only [kvB];split)); cases half <;> rfl)
 ·by_cases h2 : m = 2
  ·subst h2; repeat' (first|simp (maxSteps:=9^7) only [seval,exC,ZcY]|simp (maxSteps:=9^7) (disch:=first|with_reducible assumption|omega) only [dxB]|(simp only [kdB];split)|(simp only [kvB];split)); rfl
  ·by_cases h4 : m = 4
   ·subst h4
    cases neg <;> cases half <;> (repeat' (first|simp (maxSteps:=9^7) only [seval,exC,ZcY]|simp (maxSteps:=9^7) (disch:=first|with_reducible assumption|omega) only [dxB]|(simp only [kdB];split)|(simp only [kvB];split)); cases more <;> rfl)
   ·by_cases h5 : m = 5
    ·subst h5
     cases neg <;> cases half <;> (repeat' (first|simp (maxSteps:=9^7) only [seval,exC,ZcY]|simp (maxSteps:=9^7) (disch:=first|with_reducible assumption|omega) only [dxB]|(simp only [kdB];split)|(simp only [kvB];split)); cases more <;> rfl)
    ·repeat' (first|simp (maxSteps:=9^7) only [seval,exC,ZcY]|simp (maxSteps:=9^7) (disch:=first|with_reducible assumption|omega) only [dxB]|(simp only [kdB];split)|(simp only [kvB];split))
     simp [upB,h1,h2,h4,h5]
theorem Zhp (J : Al G T g) {b : Bool} : run G T 92 [.bool b] = some (.int .u64 (b.toNat : Int)):=by
 rw [Zac G T J.E.Zhp]
 cases b <;> (repeat' (first|simp (maxSteps:=9^7) only [seval,exC,Zgt]|simp (maxSteps:=9^7) (disch:=first|with_reducible assumption|omega) only [dxB]|(simp only [kdB];split)|(simp only [kvB];split)); try rfl)
def headN (m : Nat) : Nat:=if blen m≤64 then m * 2 ^ (64 - blen m) else m / 2 ^ (blen m - 64)
def behindN (m : Nat) : Bool:=if blen m≤64 then false else decide (m % 2 ^ (blen m - 64)≠0)
theorem Zjr {m : Nat} (h : m≠0) : blen (headN m) = 64:=by
 unfold headN; split
 ·rw [Zam h]; omega
 ·rw [Zaj]; omega
def partA (w : Nat) (top : Int) (more : Bool) : AV:=.agg [.int .u64 (w : Int),.int .i64 top,.bool more]
theorem ZeJ (J : Al G T g) {z : Bool} {d : Dy} (hm : mayL (dl d.m) = true) (h0 : d.m≠0) (he : -1099511627776 < d.e∧d.e < 1099511627776) :
  run G T 23 [DyA z d] = some (partA (headN d.m) (d.e + blen d.m) (behindN d.m)):=by
 rw [Zac G T J.E.ZeJ]
 obtain ⟨n,m,e⟩:=d
 simp only at *
 have hb:=ZcM hm
 have hh:=Zjr h0
 have h1:=ZfQ J (z:=z) hm
 have h64 : headN m < 18446744073709551616:=Zaf.1 (Nat.le_of_eq hh)
 have hs : ∃ z',run G T 50 [D z (dl m),.int .i64 (64 - blen m)] = some (.tup [D z' (dl (headN m)),.bool (behindN m),.int .i64 0]):=by
  unfold headN behindN
  by_cases hc : blen m≤64
  ·obtain ⟨z',hz⟩:=Zdb (G:=G) J (z:=z) (a:=m) (n:=64 - blen m) hm (by omega) (by omega)
   rw [show ((64 - blen m : Nat) : Int) = 64 - blen m by omega] at hz
   exact ⟨z',by rw [if_pos hc,if_pos hc]; exact hz⟩
  ·obtain ⟨z',hz⟩:=Zeq (G:=G) J (z:=z) (a:=m) (n:=blen m - 64) hm (by omega) (by omega)
   rw [show -((blen m - 64 : Nat) : Int) = 64 - blen m by omega] at hz
   exact ⟨z',by rw [if_neg hc,if_neg hc,hz]; simp⟩
 obtain ⟨z',h2⟩:=hs
 have h3:=Znb J (z:=z') h64
 simp only [DyA,A3,partA] at *
 repeat' (first|simp (maxSteps:=9^7) only [seval,exC,Zek,h1,h2,h3]|simp (maxSteps:=9^7) (disch:=first|with_reducible assumption|omega) only [dxB]|(simp only [kdB];split)|(simp only [kvB];split))
theorem Zrc {x : Int} (h : 0≤x∧x < 18446744073709551616) : andI .u64 x 1 = x % 2:=by
 obtain ⟨n,rfl⟩:=Int.eq_ofNat_of_zero_le h.1
 have:=and64 (a:=n) (b:=1) (by omega) (by decide)
 rw [show ((1 : Nat) : Int) = 1 from rfl] at this
 rw [this,Zon]; rfl
theorem Zqg {n : Nat} (h : n < 18446744073709551616) : 0≤(n : Int)∧(n : Int) < 18446744073709551616:=⟨Int.natCast_nonneg n,by omega⟩
theorem Zom {x j : Nat} (hx : x < 18446744073709551616) (hj : j < 64) : andI .u64 (x : Int) (2 ^ j - 1) = ((x % 2 ^ j : Nat) : Int):=by
 have hp:=Nat.two_pow_pos j
 have h2 : 2 ^ j < 18446744073709551616:=Nat.lt_of_lt_of_le (Nat.pow_lt_pow_right (by decide) hj) (by decide)
 have e : ((2 : Int) ^ j - 1) = ((2 ^ j - 1 : Nat) : Int):=by rw [ZaS]; omega
 rw [e,and64 hx (by omega),Nat.and_two_pow_sub_one_eq_mod]
set_option maxHeartbeats 2000000 in
theorem Znt (J : Al G T g) {m : Int} {neg more : Bool} {w k : Nat} {e top : Int} (hw : blen w = 64) (hk : e - top + 64 = k) (h0 : 0 < k) (he : -1099511627776 < e∧e < 1099511627776) (ht : -1099511627776 < top∧top < 1099511627776) :
  run G T 52 [partA w top more,.int .u8 m,.bool neg,.int .i64 e] = some (.tup [.int .u64 ((rdN m neg w more k).1 : Int),.bool (rdN m neg w more k).2]):=by
 rw [Zac G T J.E.round_part_units]
 have h64 : w < 18446744073709551616:=Zaf.1 (Nat.le_of_eq hw)
 have hw0 : w≠0:=by rintro rfl; rw [Zai] at hw; omega
 by_cases hc : 64 < k
 ·have h1:=ZkV (G:=G) J (m:=m) (neg:=neg) (odd:=false) (half:=false) (more:=true)
  have h2:=Zhp (G:=G) J (b:=upB m neg false false true)
  have e0 : ∀ j,64≤j→w < 2 ^ j:=fun j hj => Nat.lt_of_lt_of_le h64 (by rw [show 18446744073709551616 = 2 ^ 64 from rfl]; exact Nat.pow_le_pow_right (by decide) hj)
  have e1 : w / 2 ^ k = 0:=Nat.div_eq_of_lt (e0 _ (by omega))
  have e2 : halfN w k = false:=by simp only [halfN]; rw [Nat.div_eq_of_lt (e0 _ (by omega))]; rfl
  have e3 : moreN w more k = true:=by simp only [moreN]; rw [Nat.mod_eq_of_lt (e0 _ (by omega)),decide_eq_true hw0,Bool.or_true]
  have e4 : rdN m neg w more k = ((upB m neg false false true).toNat,false):=by simp only [rdN,e1,e2,e3]; simp
  rw [e4]
  simp only [partA] at *
  repeat' (first|simp (maxSteps:=9^7) only [seval,exC,Zav,h1,h2,hk]|simp (maxSteps:=9^7) (disch:=first|with_reducible assumption|omega) only [dxB]|(simp only [kdB];split)|(simp only [kvB];split))
 ·have hkm : min (k - 1) 64 = k - 1:=by omega
  have hkp : min k 64 = k:=by omega
  have p1:=Nat.two_pow_pos k
  have hh : (w : Int) / 2 ^ (k - 1) = ((w / 2 ^ (k - 1) : Nat) : Int):=by rw [ZaS]; rfl
  have hd : (w : Int) / 2 ^ k = ((w / 2 ^ k : Nat) : Int):=by rw [ZaS]; rfl
  have hq : w / 2 ^ (k - 1) < 18446744073709551616:=Nat.lt_of_le_of_lt (Nat.div_le_self ..) h64
  have hq2 : w / 2 ^ k < 9223372036854775808:=by
   apply Nat.div_lt_of_lt_mul
   have : 2 ^ 1≤2 ^ k:=Nat.pow_le_pow_right (by decide) h0
   omega
  have hmsk:=Zom (x:=w) (j:=k - 1) h64 (by omega)
  have p2 : 2 ^ (k - 1) < 18446744073709551616:=Nat.lt_of_lt_of_le (Nat.pow_lt_pow_right (by decide) (show k - 1 < 64 by omega)) (by decide)
  have p3:=Nat.two_pow_pos (k - 1)
  have w1 : (1 * (2 : Int) ^ (k - 1)) % 18446744073709551616 = 2 ^ (k - 1):=by rw [ZaS]; omega
  have w2 : ((2 : Int) ^ (k - 1) - 1) % 18446744073709551616 = 2 ^ (k - 1) - 1:=by rw [ZaS]; omega
  have hb1 : decide (((w / 2 ^ (k - 1) : Nat) : Int) % 2 = 1) = halfN w k:=by
   simp only [halfN]; congr 1; apply propext; omega
  have hb2 : (!decide (((w % 2 ^ (k - 1) : Nat) : Int) = 0)) = moreN w false k:=by
   simp only [moreN,Bool.false_or,ne_eq,decide_not]; congr 2; apply propext; omega
  have hb4 : moreN w true k = true:=rfl
  have hA1:=Zrc (x:=((w / 2 ^ (k - 1) : Nat) : Int)) (Zqg hq)
  have hA2:=Zrc (x:=((w / 2 ^ k : Nat) : Int)) (Zqg (Nat.lt_trans hq2 (by decide)))
  have hA3:=Zrc (x:=0) (by decide)
  by_cases hk2 : k = 64
  ·have e1 : w / 2 ^ k = 0:=Nat.div_eq_of_lt (by rw [hk2]; exact h64)
   have h1:=ZkV (G:=G) J (m:=m) (neg:=neg) (odd:=false) (half:=halfN w k) (more:=moreN w more k)
   have h2:=Zhp (G:=G) J (b:=upB m neg false (halfN w k) (moreN w more k))
   have e4 : rdN m neg w more k = ((upB m neg false (halfN w k) (moreN w more k)).toNat,!halfN w k && !moreN w more k):=by simp only [rdN,e1]; simp
   have hbt : (upB m neg false (halfN w k) (moreN w more k)).toNat≤1:=by cases upB m neg false (halfN w k) (moreN w more k) <;> decide
   rw [e4]
   generalize (upB m neg false (halfN w k) (moreN w more k)).toNat = bt at *
   simp only [partA] at *
   cases more
   ·cases hH : halfN w k <;> cases hM : moreN w false k <;> (
     rw [hH] at h1 h2 hb1
     rw [hM] at h1 h2 hb2
     repeat' (first|simp (maxSteps:=9^7) only [seval,exC,Zav,h1,h2,hk,hkm,hA1,hA2,hA3,hh,hb1,hb2,hmsk,w1,w2]|simp (maxSteps:=9^7) (disch:=first|with_reducible assumption|omega) only [dxB]|(simp only [kdB];split)|(simp only [kvB];split))
     all_goals (refine Zpx ?_; clear hA1 hA2; generalize w / 2 ^ k = Q at hq2 ⊢; omega))
   ·rw [hb4] at *
    cases hH : halfN w k <;> (
     rw [hH] at h1 h2 hb1
     repeat' (first|simp (maxSteps:=9^7) only [seval,exC,Zav,h1,h2,hk,hkm,hA1,hA2,hA3,hh,hb1,hmsk,w1,w2]|simp (maxSteps:=9^7) (disch:=first|with_reducible assumption|omega) only [dxB]|(simp only [kdB];split)|(simp only [kvB];split))
     all_goals (refine Zpx ?_; clear hA1 hA2; generalize w / 2 ^ k = Q at hq2 ⊢; omega))
  ·have h1:=ZkV (G:=G) J (m:=m) (neg:=neg) (odd:=decide (w / 2 ^ k % 2 = 1)) (half:=halfN w k) (more:=moreN w more k)
   have h2:=Zhp (G:=G) J (b:=upB m neg (decide (w / 2 ^ k % 2 = 1)) (halfN w k) (moreN w more k))
   have hb3 : decide (((w / 2 ^ k : Nat) : Int) % 2 = 1) = decide (w / 2 ^ k % 2 = 1):=by congr 1; apply propext; omega
   have hbt : (upB m neg (decide (w / 2 ^ k % 2 = 1)) (halfN w k) (moreN w more k)).toNat≤1:=by cases upB m neg (decide (w / 2 ^ k % 2 = 1)) (halfN w k) (moreN w more k) <;> decide
   simp only [rdN]
   generalize (upB m neg (decide (w / 2 ^ k % 2 = 1)) (halfN w k) (moreN w more k)).toNat = bt at *
   simp only [partA] at *
   have hlt : k < 64:=by omega
   cases more
   ·cases hH : halfN w k <;> cases hM : moreN w false k <;> (
     rw [hH] at h1 h2 hb1
     rw [hM] at h1 h2 hb2
     repeat' (first|simp (maxSteps:=9^7) only [seval,exC,Zav,h1,h2,hk,hkm,hA1,hA2,hA3,hkp,hh,hd,hb1,hb2,hb3,hmsk,w1,w2]|simp (maxSteps:=9^7) (disch:=first|with_reducible assumption|omega) only [dxB]|(simp only [kdB];split)|(simp only [kvB];split))
     all_goals (refine Zpx ?_; clear hA1 hA2; generalize w / 2 ^ k = Q at hq2 ⊢; omega))
   ·rw [hb4] at *
    cases hH : halfN w k <;> (
     rw [hH] at h1 h2 hb1
     repeat' (first|simp (maxSteps:=9^7) only [seval,exC,Zav,h1,h2,hk,hkm,hA1,hA2,hA3,hkp,hh,hd,hb1,hb3,hmsk,w1,w2]|simp (maxSteps:=9^7) (disch:=first|with_reducible assumption|omega) only [dxB]|(simp only [kdB];split)|(simp only [kvB];split))
     all_goals (refine Zpx ?_; clear hA1 hA2; generalize w / 2 ^ k = Q at hq2 ⊢; omega))
theorem Zde (J : Al G T g) (F : Fm) {m : Int} (h : 1≤m∧m≤5) {neg : Bool} : run G T 8 [.int .u8 F.u,.int .u8 m,.bool neg] = some (.tup [.int .u64 (ovr F m neg : Int),.int .i64 0]):=by
 rw [Zac G T J.E.Zde]
 have h1:=ZrF (G:=G) J F h
 have h2:=Zim (G:=G) J F (n:=neg)
 have h3:=Zin (G:=G) J F (n:=neg)
 simp only [fmA] at *
 cases neg
 ·repeat' (first|simp (maxSteps:=9^7) only [seval,exC,ZeB,h1,h2,h3]|simp (maxSteps:=9^7) (disch:=first|with_reducible assumption|omega) only [dxB]|(simp only [kdB];split)|(simp only [kvB];split))
  all_goals simp_all [ovr]
 ·repeat' (first|simp (maxSteps:=9^7) only [seval,exC,ZeB,h1,h2,h3]|simp (maxSteps:=9^7) (disch:=first|with_reducible assumption|omega) only [dxB]|(simp only [kdB];split)|(simp only [kvB];split))
  all_goals simp_all [ovr]
theorem ZgA (n : Bool) (e : Int) : mkD n 0 e = ⟨false,0,0⟩:=rfl
theorem Zaz {n : Bool} {m : Nat} (h : m≠0) (e : Int) : mkD n m e = ⟨n,m / 2 ^ tz m,e + tz m⟩:=if_neg h
theorem ZsP {n : Bool} {m : Nat} (h : m≠0) (e : Int) : (mkD n m e).m≠0:=by
 rw [Zaz h]; have:=(ZdW h).2; intro h0; simp only at h0; rw [h0] at this; exact absurd this (by decide)
theorem Zju {n : Bool} {m : Nat} (h : m≠0) (e : Int) : (mkD n m e).e + blen (mkD n m e).m = e + blen m:=by
 rw [Zaz h]; simp only [Zaj]
 have:=ZfW h; omega
theorem Zal {a : Nat} (h : blen a≤131072) : mayL (dl a) = true:=by
 rw [ZaG]; refine ⟨?_,ZAY a⟩; have:=Zaa a; omega
theorem dg0 (a : Nat) : dg (dl a) 0 % 2 = a % 2:=by
 rw [ZpP (Zas a),ZaI]; simp
theorem ZBB {n : Bool} {m : Nat} {e : Int} (hb : blen m≤131072) (he : m = 0∨(-16777216≤e + tz m∧e + tz m≤16777216)) : mayD (mkD n m e).n (dl (mkD n m e).m) (mkD n m e).e = true:=by
 by_cases h : m = 0
 ·subst h; rw [ZgA,Zag]; rfl
 ·rw [Zaz h]
  simp only at *
  have h1 : mayL (dl (m / 2 ^ tz m)) = true:=Zal (by rw [Zaj]; omega)
  have h2:=(ZdW h).2
  have h3 : ¬ (dl (m / 2 ^ tz m)).length = 0:=by rw [Zap]; intro h0; rw [h0] at h2; exact absurd h2 (by decide)
  simp only [mayD,h1,h3,if_false,dg0,h2,Bool.true_and,decide_true]
  rw [decide_eq_true (by omega : -16777216≤e + tz m),decide_eq_true (by omega : e + tz m≤16777216)]; rfl
theorem Zmd {F : Fm} {neg : Bool} {n : Nat} {e : Int} (h0 : n≠0) (h1 : n≤2 ^ (F.fr + 1)) (h2 : F.low≤e) (h3 : e + blen n≤F.wide) : F.fits (mkD neg n e):=by
 have hb:=Zju (n:=neg) h0 e
 have hm:=ZsP (n:=neg) h0 e
 refine ⟨hm,?_,?_,by omega⟩
 ·rw [Zaz h0]; simp only
  rcases Nat.lt_or_ge n (2 ^ (F.fr + 1)) with h | h
  ·rw [Zaj]; have:=Zaf.2 h; omega
  ·have h5 : n = 1 * 2 ^ (F.fr + 1):=by omega
   rw [h5,ZeK (by decide),Nat.mul_div_cancel _ (Nat.two_pow_pos _),show blen 1 = 1 from rfl]; omega
 ·rw [Zaz h0]; simp only; omega
theorem Zwv {F : Fm} {neg : Bool} {n : Nat} {e : Int} (h0 : n≠0) (h1 : n≤2 ^ (F.fr + 1)) (h2 : F.low≤e) (h4 : e = F.low∨2 ^ F.fr≤n) :
  F.enc ((mkD neg n e).m * 2 ^ ((mkD neg n e).e - F.unit (mkD neg n e)).toNat) (F.unit (mkD neg n e)) = F.enc n e:=by
 have hb:=Zju (n:=neg) h0 e
 have hu : F.unit (mkD neg n e) = max (e + blen n - F.fr - 1) F.low:=by unfold Fm.unit; rw [hb]
 rw [hu]
 rcases Nat.lt_or_ge n (2 ^ (F.fr + 1)) with h | h
 ·have h5:=Zaf.2 h
  have h6 : max (e + blen n - F.fr - 1) F.low = e:=by
   rcases h4 with h4 | h4
   ·omega
   ·have:=Zau.2 h4; omega
  rw [h6,Zaz h0]
  simp only
  rw [show (e + (tz n : Int) - e).toNat = tz n by omega,← (ZdW h0).1]
 ·have h5 : n = 1 * 2 ^ (F.fr + 1):=by omega
  have h6 : tz n = F.fr + 1:=by rw [h5]; exact ZeK (by decide)
  have h7 : blen n = F.fr + 2:=by rw [h5,Zam (by decide),show blen 1 = 1 from rfl]; omega
  rw [Zaz h0,h6,h7]
  simp only
  have h8 : n / 2 ^ (F.fr + 1) = 1:=by rw [h5,Nat.mul_div_cancel _ (Nat.two_pow_pos _)]
  rw [h8,show max (e + ((F.fr + 2 : Nat) : Int) - F.fr - 1) F.low = e + 1 by omega,show (e + ((F.fr + 1 : Nat) : Int) - (e + 1)).toNat = F.fr by omega]
  unfold Fm.enc
  rw [show (e + 1 - F.low).toNat = (e - F.low).toNat + 1 by omega,Nat.add_mul,h5,Nat.pow_succ]; omega
theorem Zti {md : Int} {neg more : Bool} {w k : Nat} (hw : blen w = 64) {p : Nat} (hk : 64≤k + p) : (rdN md neg w more k).1≤2 ^ p:=by
 have h64 : w < 2 ^ 64:=Zaf.1 (Nat.le_of_eq hw)
 have h1 : w / 2 ^ k < 2 ^ p:=by
  apply Nat.div_lt_of_lt_mul
  rw [← Nat.pow_add]
  exact Nat.lt_of_lt_of_le h64 (Nat.pow_le_pow_right (by decide) hk)
 have h2 : ∀ b : Bool,b.toNat≤1:=by intro b; cases b <;> decide
 have:=h2 (upB md neg (decide (w / 2 ^ k % 2 = 1)) (halfN w k) (moreN w more k))
 simp only [rdN]; omega
theorem ZwT {md : Int} {neg more : Bool} {w k : Nat} (hw : blen w = 64) (hk : k≤63) : 2 ^ (63 - k)≤(rdN md neg w more k).1:=by
 have h1 : 2 ^ 63≤w:=Zau.1 (by omega)
 have h2 : 2 ^ (63 - k)≤w / 2 ^ k:=by
  rw [Nat.le_div_iff_mul_le (Nat.two_pow_pos _),← Nat.pow_add,show 63 - k + k = 63 by omega]; exact h1
 simp only [rdN]; omega
theorem Zak (F : Fm) : (F.fr = 23∧F.low = -149∧F.wide = 128)∨(F.fr = 52∧F.low = -1074∧F.wide = 1024):=by
 cases F
 ·exact Or.inl ⟨rfl,rfl,rfl⟩
 ·exact Or.inr ⟨rfl,rfl,rfl⟩
def partW (F : Fm) (md : Int) (neg : Bool) (w : Nat) (more : Bool) (top : Int) : Nat × Nat :=
 wordOf F md neg (rdN md neg w more (F.eOf top - top + 64).toNat).1 (rdN md neg w more (F.eOf top - top + 64).toNat).2 (F.eOf top) top (rdN md neg w more (63 - F.fr)).1
set_option maxHeartbeats 4000000 in
theorem Zlz (J : Al G T g) (F : Fm) {m : Int} (hm : 1≤m∧m≤5) {neg more : Bool} {w : Nat} {top : Int} (hw : blen w = 64) (ht : -549755813888 < top∧top < 549755813888) :
  run G T 24 [partA w top more,.int .u8 F.u,fmA F,.int .u8 m,.bool neg] = some (.tup [.int .u64 ((partW F m neg w more top).1 : Int),.int .u8 ((partW F m neg w more top).2 : Int)]):=by
 rw [Zac G T J.E.round_part_word]
 have hF:=Zak F
 have hE : max (top - ((F.fr : Int) + 1)) F.low = F.eOf top:=by unfold Fm.eOf; omega
 have u1:=Znt (G:=G) J (m:=m) (neg:=neg) (more:=more) (w:=w) (k:=(F.eOf top - top + 64).toNat) (e:=F.eOf top) (top:=top) hw (by omega) (by omega) (by omega) (by omega)
 have u2:=Znt (G:=G) J (m:=m) (neg:=neg) (more:=more) (w:=w) (k:=63 - F.fr) (e:=top - ((F.fr : Int) + 1)) (top:=top) hw (by omega) (by omega) (by omega) (by omega)
 have b1:=Zti (md:=m) (neg:=neg) (more:=more) hw (k:=(F.eOf top - top + 64).toNat) (p:=F.fr + 1) (by omega)
 have b2:=Zti (md:=m) (neg:=neg) (more:=more) hw (k:=63 - F.fr) (p:=F.fr + 1) (by omega)
 have l1 : F.eOf top = F.low∨2 ^ F.fr≤(rdN m neg w more (F.eOf top - top + 64).toNat).1:=by
  by_cases h : F.eOf top = F.low
  ·exact Or.inl h
  ·right
   have:=ZwT (md:=m) (neg:=neg) (more:=more) hw (k:=(F.eOf top - top + 64).toNat) (by omega)
   rwa [show 63 - (F.eOf top - top + 64).toNat = F.fr by omega] at this
 have hp : 2 ^ (F.fr + 1)≤9007199254740992:=by cases F <;> decide
 have o1:=Zde (G:=G) J F hm (neg:=neg)
 unfold partW
 generalize (F.eOf top - top + 64).toNat = k at *
 obtain ⟨n,ex,hR⟩ : ∃ n ex,rdN m neg w more k = (n,ex):=⟨_,_,rfl⟩
 obtain ⟨fine,ex2,hR2⟩ : ∃ n ex,rdN m neg w more (63 - F.fr) = (n,ex):=⟨_,_,rfl⟩
 rw [hR] at u1 b1 l1 ⊢
 rw [hR2] at u2 b2 ⊢
 simp only at *
 have c1:=Zft J (x:=n) (by omega)
 have c2:=Zft J (x:=fine) (by omega)
 have q1 : blen n≤54:=Zaf.2 (by omega)
 have q2 : blen fine≤54:=Zaf.2 (by omega)
 obtain ⟨z1,f1⟩:=Znc J (n:=n) (by omega)
 by_cases hov : F.wide < blen n + F.eOf top
 ·simp only [wordOf,if_pos hov]
  simp only [partA,fmA] at *
  repeat' (first|simp (maxSteps:=9^7) only [seval,exC,ZaD,hE,u1,c1,o1]|simp (maxSteps:=9^7) (disch:=first|with_reducible assumption|omega) only [dxB]|(simp only [kdB];split)|(simp only [kvB];split))
 ·by_cases hn : n = 0
  ·subst hn
   have hlow : F.eOf top = F.low:=by
    rcases l1 with h | h
    ·exact h
    ·have:=Nat.two_pow_pos F.fr; omega
   obtain ⟨z2,f2⟩:=Zbv J (n:=neg) (z:=z1) (a:=0) (e:=F.eOf top) (Zal (by rw [Zai]; omega)) (Or.inl rfl) (by omega)
   rw [ZgA] at f2
   have f3:=ZqV J F (z:=z2)
   have f4:=Zjb J F (n:=neg)
   have e0 : F.enc 0 (F.eOf top) = 0:=by rw [hlow]; simp [Fm.enc]
   simp only [wordOf,if_neg hov,e0,Nat.zero_add]
   simp only [partA,fmA,DyA,A3,cast0] at *
   cases ex
   ·repeat' (first|simp (maxSteps:=9^7) only [seval,exC,ZaD,hE,u1,c1,c2,u2,f1,f2,f3,f4]|simp (maxSteps:=9^7) (disch:=first|with_reducible assumption|omega) only [dxB]|(simp only [kdB];split)|(simp only [kvB];split))
    all_goals simp_all
    all_goals (split <;> omega)
   ·repeat' (first|simp (maxSteps:=9^7) only [seval,exC,ZaD,hE,u1,c1,c2,u2,f1,f2,f3,f4]|simp (maxSteps:=9^7) (disch:=first|with_reducible assumption|omega) only [dxB]|(simp only [kdB];split)|(simp only [kvB];split))
    all_goals simp_all
  ·have htz:=ZfW hn
   obtain ⟨z2,f2⟩:=Zbv J (n:=neg) (z:=z1) (a:=n) (e:=F.eOf top) (Zal (by omega)) (Or.inr (by omega)) (by omega)
   have hft:=Zmd (F:=F) (neg:=neg) hn b1 (by omega : F.low≤F.eOf top) (by omega)
   have f3:=ZpB J F (z:=z2) (ZBB (n:=neg) (m:=n) (e:=F.eOf top) (by omega) (Or.inr (by omega))) hft
   rw [Zwv hn b1 (by omega) l1] at f3
   have hsn : (mkD neg n (F.eOf top)).n = neg:=by rw [Zaz hn]
   rw [hsn] at f3
   simp only [wordOf,if_neg hov]
   have hn' : ¬ (n : Int) = 0:=by omega
   simp only [partA,fmA,DyA,A3] at *
   cases ex
   ·repeat' (first|simp (maxSteps:=9^7) only [seval,exC,ZaD,hE,u1,c1,c2,u2,f1,f2,f3,hn']|simp (maxSteps:=9^7) (disch:=first|with_reducible assumption|omega) only [dxB]|(simp only [kdB];split)|(simp only [kvB];split))
    all_goals simp_all
    all_goals (split <;> omega)
   ·repeat' (first|simp (maxSteps:=9^7) only [seval,exC,ZaD,hE,u1,c1,c2,u2,f1,f2,f3,hn']|simp (maxSteps:=9^7) (disch:=first|with_reducible assumption|omega) only [dxB]|(simp only [kdB];split)|(simp only [kvB];split))
    all_goals simp_all
theorem Ztc (F : Fm) (md : Int) {d : Dy} (h : d.m≠0) : partW F md d.n (headN d.m) (behindN d.m) (d.e + blen d.m) = rndW F md d:=by
 have hF:=Zak F
 have e1:=Zmh md d.n h d.e (F.eOf (d.e + blen d.m)) (by unfold Fm.eOf; omega)
 have e2:=Zmh md d.n h d.e (d.e + blen d.m - F.fr - 1) (by omega)
 rw [show (d.e + (blen d.m : Int) - F.fr - 1 - (d.e + blen d.m) + 64).toNat = 63 - F.fr by omega] at e2
 simp only [partW,rndW,if_neg h,headN,behindN,e1,e2]
theorem Zfp {n : Bool} {m : Nat} {e : Int} (h : mayD n (dl m) e = true) : (if mayD n (dl m) e = false∨(dl m).length = 0 then (0 : Int) else if n then -1 else 1) = if m = 0 then 0 else if n then -1 else 1:=by
 simp [h,ZeE]
theorem ZbR {n : Bool} {l : List Nat} {e : Int} (h : mayD n l e = true) : mayL l = true∧(l.length = 0→n = false∧e = 0)∧(l.length≠0→dg l 0 % 2 = 1)∧-16777216≤e∧e≤16777216:=by
 simp only [mayD,Bool.and_eq_true] at h
 obtain ⟨h1,h2⟩:=h
 refine ⟨h1,?_⟩
 by_cases h0 : l.length = 0
 ·rw [if_pos h0] at h2
  simp only [Bool.and_eq_true,Bool.not_eq_true',decide_eq_true_eq] at h2
  exact ⟨fun _ => h2,fun h => absurd h0 h,by omega,by omega⟩
 ·rw [if_neg h0] at h2
  simp only [Bool.and_eq_true,decide_eq_true_eq] at h2
  exact ⟨fun h => absurd h h0,fun _ => h2.1,h2.2.1,h2.2.2⟩
theorem Zik (J : Al G T g) (F : Fm) {m : Int} (hm : 1≤m∧m≤5) {z : Bool} {d : Dy} (hd : mayD d.n (dl d.m) d.e = true) :
  run G T 7 [.int .u8 F.u,.int .u8 m,DyA z d] = some (.tup [.int .u64 ((rndW F m d).1 : Int),.int .u8 ((rndW F m d).2 : Int),.int .i64 0]):=by
 rw [Zac G T J.E.Zik]
 obtain ⟨f1,f2,f3,f4,f5⟩:=ZbR hd
 have o1:=Zkd (G:=G) J F hm (n:=d.n) (z:=z) (Zas d.m) (e:=d.e)
 rw [hd,if_pos rfl] at o1
 have s1:=Zck (G:=G) J (n:=d.n) (z:=z) (Zas d.m) (e:=d.e)
 rw [Zfp hd] at s1
 by_cases h0 : d.m = 0
 ·rw [if_pos h0] at s1
  simp only [rndW,if_pos h0]
  simp only [DyA,A3,fmA] at *
  repeat' (first|simp (maxSteps:=9^7) only [seval,exC,Zdq,o1,s1]|simp (maxSteps:=9^7) (disch:=first|with_reducible assumption|omega) only [dxB]|(simp only [kdB];split)|(simp only [kvB];split))
  all_goals rfl
 ·have hb:=ZcM f1
  have p1:=ZeJ (G:=G) J (z:=z) f1 h0 (by omega)
  have w1:=Zlz (G:=G) J F hm (neg:=d.n) (more:=behindN d.m) (w:=headN d.m) (top:=d.e + blen d.m) (Zjr h0) (by omega)
  rw [Ztc F m h0] at w1
  rw [if_neg h0] at s1
  cases hn : d.n <;> (
   simp only [DyA,A3,fmA,partA,hn,Bool.false_eq_true,if_true,if_false] at *
   repeat' (first|simp (maxSteps:=9^7) only [seval,exC,Zdq,o1,s1,p1,w1]|simp (maxSteps:=9^7) (disch:=first|with_reducible assumption|omega) only [dxB]|(simp only [kdB];split)|(simp only [kvB];split)))
def iv (d : Dy) (L : Int) : Int:=(if d.n then -1 else 1) * ((d.m * 2 ^ (d.e - L).toNat : Nat) : Int)
def LoE (d : Dy) (L : Int) : Prop:=d.m = 0∨L≤d.e
def sgI (x : Int) : Int:=if x < 0 then -1 else if 0 < x then 1 else 0
theorem Zah {d : Dy} (h : d.m = 0) (L : Int) : iv d L = 0:=by simp [iv,h]
theorem Zlc {a b c : Int} (h1 : a≤b) (h2 : b≤c) : 2 ^ (c - a).toNat = 2 ^ (c - b).toNat * 2 ^ (b - a).toNat:=by
 rw [← Nat.pow_add]; congr 1; omega
theorem Zrs {n : Bool} {m : Nat} (h : m≠0) {e L : Int} (hL : L≤e) : (mkD n m e).m * 2 ^ ((mkD n m e).e - L).toNat = m * 2 ^ (e - L).toNat:=by
 rw [Zaz h]
 simp only
 rw [Zlc (b:=e) hL (by omega),show (e + (tz m : Int) - e).toNat = tz m by omega,← Nat.mul_assoc,← (ZdW h).1]
theorem Zww {n : Bool} {m : Nat} (h : m≠0) (e : Int) : (mkD n m e).n = n:=by rw [Zaz h]
theorem ZlT {n : Bool} {m : Nat} {e L : Int} (hL : L≤e) : iv (mkD n m e) L = (if n then -1 else 1) * ((m * 2 ^ (e - L).toNat : Nat) : Int):=by
 by_cases h : m = 0
 ·subst h; rw [ZgA]; simp [iv]
 ·unfold iv; rw [Zrs h hL,Zww h]
theorem ZfA {n : Bool} {m : Nat} {e L : Int} (hL : L≤e) : LoE (mkD n m e) L:=by
 by_cases h : m = 0
 ·subst h; exact Or.inl rfl
 ·right; rw [Zaz h]; simp only; omega
theorem LoE.mono {d : Dy} {L L' : Int} (h : LoE d L) (hl : L'≤L) : LoE d L':=h.imp id (by omega)
theorem ZkB {d : Dy} {L L' : Int} (h : LoE d L) (hl : L'≤L) : iv d L' = iv d L * ((2 ^ (L - L').toNat : Nat) : Int):=by
 rcases h with h | h
 ·rw [Zah h,Zah h]; simp
 ·unfold iv
  rw [Zlc hl h,← Nat.mul_assoc,Int.natCast_mul,Int.mul_assoc]
theorem Zqa (d : Dy) (L : Int) : iv (negD d) L = -iv d L:=by
 unfold negD; split
 ·next h => rw [Zah h]; rfl
 ·unfold iv; cases d.n <;> simp
theorem Zms {d : Dy} {L : Int} (h : LoE d L) : LoE (negD d) L:=by
 unfold negD; split
 ·exact h
 ·exact h
theorem ZzH (d : Dy) (L : Int) : iv (absD d) L = ((d.m * 2 ^ (d.e - L).toNat : Nat) : Int):=by simp [iv,absD]
theorem ZCe (n : Bool) (a b : Int) : (if n then -1 else 1) * a + (if n then -1 else 1) * b = (if n then -1 else 1) * (a + b):=by cases n <;> simp <;> omega
theorem Zbx {a b : Dy} {L : Int} (ha : LoE a L) (hb : LoE b L) : iv (addD a b) L = iv a L + iv b L∧LoE (addD a b) L:=by
 unfold addD
 by_cases h0 : a.m = 0
 ·rw [if_pos h0,Zah h0,Int.zero_add]; exact ⟨rfl,hb⟩
 ·rw [if_neg h0]
  by_cases h1 : b.m = 0
  ·rw [if_pos h1,Zah h1,Int.add_zero]; exact ⟨rfl,ha⟩
  ·rw [if_neg h1]
   have la : L≤a.e:=ha.resolve_left h0
   have lb : L≤b.e:=hb.resolve_left h1
   have hL : L≤min a.e b.e:=by omega
   have va : iv a L = (if a.n then -1 else 1) * (((a.m * 2 ^ (a.e - min a.e b.e).toNat) * 2 ^ (min a.e b.e - L).toNat : Nat) : Int):=by
    unfold iv; rw [Zlc hL (show min a.e b.e≤a.e by omega),Nat.mul_assoc]
   have vb : iv b L = (if b.n then -1 else 1) * (((b.m * 2 ^ (b.e - min a.e b.e).toNat) * 2 ^ (min a.e b.e - L).toNat : Nat) : Int):=by
    unfold iv; rw [Zlc hL (show min a.e b.e≤b.e by omega),Nat.mul_assoc]
   rw [va,vb]
   generalize a.m * 2 ^ (a.e - min a.e b.e).toNat = A
   generalize b.m * 2 ^ (b.e - min a.e b.e).toNat = B
   generalize hM : min a.e b.e = M at *
   by_cases hn : a.n = b.n
   ·rw [if_pos hn]
    refine ⟨?_,ZfA hL⟩
    rw [ZlT hL,← hn,ZCe,Nat.add_mul,Int.natCast_add]
   ·rw [if_neg hn]
    have hbn : b.n = !a.n:=by cases h : a.n <;> cases h' : b.n <;> simp_all
    by_cases hc : B≤A
    ·rw [if_pos hc]
     refine ⟨?_,ZfA hL⟩
     rw [ZlT hL,hbn]
     have:=Nat.mul_le_mul_right (2 ^ (M - L).toNat) hc
     rw [Nat.sub_mul,Int.natCast_sub this]
     cases a.n <;> simp <;> omega
    ·rw [if_neg hc]
     refine ⟨?_,ZfA hL⟩
     rw [ZlT hL,hbn]
     have:=Nat.mul_le_mul_right (2 ^ (M - L).toNat) (by omega : A≤B)
     rw [Nat.sub_mul,Int.natCast_sub this]
     cases a.n <;> simp <;> omega
theorem ZDl {a b : Dy} {L : Int} (ha : LoE a L) (hb : LoE b L) : iv (subD a b) L = iv a L - iv b L∧LoE (subD a b) L:=by
 have h:=Zbx ha (Zms hb)
 rw [Zqa] at h
 exact ⟨by unfold subD; rw [h.1]; omega,h.2⟩
theorem ZDm {n L : Int} : iv (twoD n) L = ((2 ^ (n - L).toNat : Nat) : Int):=by simp [iv,twoD]
theorem Zxk (d : Dy) (L : Int) : sgnD d = sgI (iv d L):=by
 unfold sgnD sgI iv
 have hp:=Nat.two_pow_pos (d.e - L).toNat
 by_cases h : d.m = 0
 ·simp [h]
 ·rw [if_neg h]
  have : 0 < d.m * 2 ^ (d.e - L).toNat:=Nat.mul_pos (by omega) hp
  generalize d.m * 2 ^ (d.e - L).toNat = X at *
  cases d.n <;> simp <;> omega
theorem ZAL {a b : Dy} {L : Int} (h0 : a.m≠0) (h1 : b.m≠0) (la : L≤a.e) (lb : L≤b.e) (h : a.e + blen a.m < b.e + blen b.m) : a.m * 2 ^ (a.e - L).toNat < b.m * 2 ^ (b.e - L).toNat:=by
 have e1:=Zam h0 (a.e - L).toNat
 have e2:=Zam h1 (b.e - L).toNat
 have h2 : blen (a.m * 2 ^ (a.e - L).toNat)≤blen (b.m * 2 ^ (b.e - L).toNat) - 1:=by omega
 have h3:=Zaf.1 h2
 have h4:=ZaW (n:=b.m * 2 ^ (b.e - L).toNat) (by
  have:=Nat.mul_pos (Nat.pos_of_ne_zero h1) (Nat.two_pow_pos (b.e - L).toNat); omega)
 omega
theorem ZnQ {a b : Dy} {L : Int} (ha : LoE a L) (hb : LoE b L) : cmpD a b = sgI (iv a L - iv b L):=by
 unfold cmpD
 have sa:=Zxk a L
 have sb:=Zxk b L
 by_cases h1 : sgnD a = sgnD b
 ·rw [if_neg (by simpa using h1)]
  by_cases h2 : sgnD a = 0
  ·rw [if_pos h2]
   have z1 : a.m = 0:=by unfold sgnD at h2; split at h2; assumption; split at h2 <;> cases h2
   have z2 : b.m = 0:=by rw [h1] at h2; unfold sgnD at h2; split at h2; assumption; split at h2 <;> cases h2
   rw [Zah z1,Zah z2]; rfl
  ·rw [if_neg h2]
   have n1 : a.m≠0:=by intro h; apply h2; simp [sgnD,h]
   have n2 : b.m≠0:=by intro h; apply h2; rw [h1]; simp [sgnD,h]
   have la:=ha.resolve_left n1
   have lb:=hb.resolve_left n2
   have hs : a.n = b.n:=by
    unfold sgnD at h1; rw [if_neg n1,if_neg n2] at h1
    cases h : a.n <;> cases h' : b.n <;> simp_all
   have t1 : topD a = a.e + blen a.m:=by unfold topD; rw [if_neg n1]
   have t2 : topD b = b.e + blen b.m:=by unfold topD; rw [if_neg n2]
   have sg : sgnD a = if a.n then -1 else 1:=by unfold sgnD; rw [if_neg n1]
   by_cases h3 : topD a = topD b
   ·rw [if_neg (by simpa using h3)]
    rw [Zxk _ L,(ZDl ha hb).1]
   ·rw [if_pos h3]
    rw [t1,t2] at *
    rcases Int.lt_or_gt_of_ne h3 with h4 | h4
    ·have:=ZAL n1 n2 la lb h4
     unfold iv sgI
     rw [← hs,sg,decide_eq_true h4]
     generalize a.m * 2 ^ (a.e - L).toNat = X at *
     generalize b.m * 2 ^ (b.e - L).toNat = Y at *
     cases a.n <;> simp <;> omega
    ·have:=ZAL n2 n1 lb la h4
     have h5 : ¬ (a.e + (blen a.m : Int) < b.e + blen b.m):=by omega
     unfold iv sgI
     rw [← hs,sg,decide_eq_false h5]
     generalize a.m * 2 ^ (a.e - L).toNat = X at *
     generalize b.m * 2 ^ (b.e - L).toNat = Y at *
     cases a.n <;> simp <;> omega
 ·rw [if_pos (by simpa using h1)]
  rw [sa,sb] at *
  unfold sgI at *
  generalize iv a L = x at *
  generalize iv b L = y at *
  by_cases x1 : x < 0 <;> by_cases x2 : 0 < x <;> by_cases y1 : y < 0 <;> by_cases y2 : 0 < y <;> simp_all <;> omega
def sameD (a b : Dy) : Prop:=a.n = b.n∧a.e = b.e∧a.m = b.m
instance (a b : Dy) : Decidable (sameD a b):=inferInstanceAs (Decidable (_∧_∧_))
theorem Bd.mono {d : Dy} {K L : Nat} (h : Bd d K) (hl : K≤L) : Bd d L:=⟨by have:=h.bl; omega,by have:=h.lo; omega,by have:=h.hi; omega⟩
theorem Zuc {n : Bool} {m : Nat} {e : Int} {K : Nat} (h1 : blen m≤K) (h2 : -(K : Int)≤e) (h3 : e + blen m≤K) : Bd (mkD n m e) K:=by
 by_cases h : m = 0
 ·subst h; rw [ZgA]; exact ⟨by simp only [Zai]; omega,by simp only; omega,by simp only; omega⟩
 ·rw [Zaz h]
  have:=ZfW h
  exact ⟨by simp only [Zaj]; omega,by simp only; omega,by simp only; omega⟩
theorem ZEB {d : Dy} {K : Nat} {k : Int} (h : Bd d K) {L : Nat} (h1 : -(L : Int)≤k∧k≤L) : Bd (shD d k) (K + L):=by
 obtain ⟨a,b,c⟩:=h
 unfold shD; split
 ·exact ⟨by omega,by omega,by omega⟩
 ·exact ⟨by simp only; omega,by simp only; omega,by simp only; omega⟩
theorem ZlI {a b : Dy} {K : Nat} (ha : Bd a K) (hb : Bd b K) : Bd (addD a b) (4 * K + 1):=by
 obtain ⟨a1,a2,a3⟩:=ha
 obtain ⟨b1,b2,b3⟩:=hb
 unfold addD
 have x1:=Zhv a.m (a.e - min a.e b.e).toNat
 have x2:=Zhv b.m (b.e - min a.e b.e).toNat
 generalize a.m * 2 ^ (a.e - min a.e b.e).toNat = A at *
 generalize b.m * 2 ^ (b.e - min a.e b.e).toNat = B at *
 have s1:=Zmw A B
 have s2:=Zax (Nat.sub_le A B)
 have s3:=Zax (Nat.sub_le B A)
 split
 ·exact ⟨by omega,by omega,by omega⟩
 ·split
  ·exact ⟨by omega,by omega,by omega⟩
  ·split
   ·exact Zuc (by omega) (by omega) (by omega)
   ·split
    ·exact Zuc (by omega) (by omega) (by omega)
    ·exact Zuc (by omega) (by omega) (by omega)
def lowD (x : Dy) (u : Int) : Dy:=shD (floorD (shD x (-u))) u
def evenD (x : Dy) (u : Int) : Prop:=sameD (floorD (shD (shD (lowD x u) (-u)) (-1))) (shD (shD (lowD x u) (-u)) (-1))
instance (x : Dy) (u : Int) : Decidable (evenD x u):=inferInstanceAs (Decidable (sameD _ _))
def Nz (d : Dy) : Prop:=(d.m = 0→d = ⟨false,0,0⟩)∧(d.m≠0→d.m % 2 = 1)
theorem ZnE (n : Bool) (m : Nat) (e : Int) : Nz (mkD n m e):=by
 by_cases h : m = 0
 ·subst h; rw [ZgA]; exact ⟨fun _ => rfl,fun h => absurd rfl h⟩
 ·have h0:=ZsP (n:=n) h e
  refine ⟨fun h1 => absurd h1 h0,fun _ => ?_⟩
  rw [Zaz h]; exact (ZdW h).2
theorem ZrR {d : Dy} (h : Nz d) : Nz (negD d):=by
 unfold negD; split
 ·exact h
 ·next h0 => exact ⟨fun h1 => absurd h1 h0,h.2⟩
theorem ZcT {a b : Dy} (ha : Nz a) (hb : Nz b) : Nz (addD a b):=by
 unfold addD; split
 ·exact hb
 ·split
  ·exact ha
  ·split
   ·exact ZnE ..
   ·split <;> exact ZnE ..
theorem ZwA {a b : Dy} {L : Int} (ha : Nz a) (hb : Nz b) (la : LoE a L) (lb : LoE b L) (h : iv a L = iv b L) : a = b:=by
 have hp:=fun d : Dy => Nat.two_pow_pos (d.e - L).toNat
 by_cases h0 : a.m = 0
 ·have h1 : b.m = 0:=by
   rw [Zah h0] at h
   unfold iv at h
   have h2:=hp b
   rcases Nat.eq_zero_or_pos (b.m * 2 ^ (b.e - L).toNat) with h3 | h3
   ·rcases Nat.mul_eq_zero.1 h3 with h4 | h4
    ·exact h4
    ·omega
   ·exfalso
    generalize b.m * 2 ^ (b.e - L).toNat = X at *
    cases hb : b.n <;> simp [hb] at h <;> omega
  rw [ha.1 h0,hb.1 h1]
 ·have h1 : b.m≠0:=by
   intro h1
   rw [Zah h1] at h
   unfold iv at h
   have h3:=Nat.mul_pos (Nat.pos_of_ne_zero h0) (hp a)
   generalize a.m * 2 ^ (a.e - L).toNat = X at *
   cases hb : a.n <;> simp [hb] at h <;> omega
  have p1:=Nat.mul_pos (Nat.pos_of_ne_zero h0) (hp a)
  have p2:=Nat.mul_pos (Nat.pos_of_ne_zero h1) (hp b)
  unfold iv at h
  have hX : a.m * 2 ^ (a.e - L).toNat = b.m * 2 ^ (b.e - L).toNat∧a.n = b.n:=by
   generalize a.m * 2 ^ (a.e - L).toNat = X at *
   generalize b.m * 2 ^ (b.e - L).toNat = Y at *
   cases ha : a.n <;> cases hb : b.n <;> simp [ha,hb] at h ⊢ <;> omega
  obtain ⟨hX,hn⟩:=hX
  have t1:=ZeK (k:=(a.e - L).toNat) (ha.2 h0)
  have t2:=ZeK (k:=(b.e - L).toNat) (hb.2 h1)
  rw [hX,t2] at t1
  have l1:=la.resolve_left h0
  have l2:=lb.resolve_left h1
  have he : a.e = b.e:=by omega
  rw [he] at hX
  have hm:=Nat.eq_of_mul_eq_mul_right (hp b) hX
  obtain ⟨n,m,e⟩:=a
  obtain ⟨n',m',e'⟩:=b
  simp only at *
  subst he hm hn; rfl
theorem Zpm {x : Int} : sgI x < 0↔x < 0:=by unfold sgI; split <;> (try split) <;> omega
theorem Zxi {x : Int} : 0 < sgI x↔0 < x:=by unfold sgI; split <;> (try split) <;> omega
theorem Zhl (m : Nat) {k : Nat} (hk : 0 < k) : m % 2 ^ k = (if halfN m k then 2 ^ (k - 1) else 0) + m % 2 ^ (k - 1)∧m % 2 ^ (k - 1) < 2 ^ (k - 1)∧2 ^ k = 2 * 2 ^ (k - 1):=by
 obtain ⟨i,rfl⟩ : ∃ i,k = i + 1:=⟨k - 1,by omega⟩
 refine ⟨?_,Nat.mod_lt _ (Nat.two_pow_pos _),by rw [Nat.add_sub_cancel,Nat.pow_succ]; omega⟩
 rw [Nat.pow_succ,Nat.mod_mul,Nat.add_sub_cancel]
 simp only [halfN,Nat.add_sub_cancel]
 have : m / 2 ^ i % 2 = 0∨m / 2 ^ i % 2 = 1:=by omega
 rcases this with h | h <;> simp [h] <;> omega
theorem ZlP (F : Fm) {md : Int} {d : Dy} (h : d.m≠0) : (rnd md d.n d.m d.e (F.eOf (d.e + blen d.m))).1≤2 ^ (F.fr + 1) ∧
  (F.eOf (d.e + blen d.m) = F.low∨2 ^ F.fr≤(rnd md d.n d.m d.e (F.eOf (d.e + blen d.m))).1) ∧
  (rnd md d.n d.m d.e (d.e + blen d.m - F.fr - 1)).1≤2 ^ (F.fr + 1)∧2 ^ F.fr≤(rnd md d.n d.m d.e (d.e + blen d.m - F.fr - 1)).1:=by
 have hF:=Zak F
 have hw:=Zjr h
 have e1:=Zmh md d.n h d.e (F.eOf (d.e + blen d.m)) (by unfold Fm.eOf; omega)
 have e2:=Zmh md d.n h d.e (d.e + blen d.m - F.fr - 1) (by omega)
 have hE : F.eOf (d.e + blen d.m) = max (d.e + blen d.m - F.fr - 1) F.low:=rfl
 change rdN md d.n (headN d.m) (behindN d.m) _ = _ at e1 e2
 rw [← e1,← e2]
 rw [show (d.e + (blen d.m : Int) - F.fr - 1 - (d.e + blen d.m) + 64).toNat = 63 - F.fr by omega]
 refine ⟨Zti hw (by omega),?_,Zti hw (by omega),?_⟩
 ·by_cases hl : F.eOf (d.e + blen d.m) = F.low
  ·exact Or.inl hl
  ·right
   rw [show (F.eOf (d.e + (blen d.m : Int)) - (d.e + blen d.m) + 64).toNat = 63 - F.fr by omega]
   have:=ZwT (md:=md) (neg:=d.n) (more:=behindN d.m) hw (k:=63 - F.fr) (by omega)
   rwa [show 63 - (63 - F.fr) = F.fr by omega] at this
 ·have:=ZwT (md:=md) (neg:=d.n) (more:=behindN d.m) hw (k:=63 - F.fr) (by omega)
  rwa [show 63 - (63 - F.fr) = F.fr by omega] at this
theorem Zwt {n : Bool} {m : Nat} {e : Int} (h : mayD n (dl m) e = true) : Nz ⟨n,m,e⟩:=by
 obtain ⟨f1,f2,f3,f4,f5⟩:=ZbR h
 refine ⟨fun h0 => ?_,fun h0 => ?_⟩
 ·simp only at h0; subst h0
  obtain ⟨a,b⟩:=f2 (by rw [Zag]; rfl)
  rw [a,b]
 ·have:=f3 (by rw [ne_eq,Zap]; exact h0)
  rwa [dg0] at this
def Fm.ng (F : Fm) (w : Nat) : Bool:=decide (F.sg≤w)
def Fm.ex (F : Fm) (w : Nat) : Nat:=w % F.sg / 2 ^ F.fr
def Fm.fc (F : Fm) (w : Nat) : Nat:=w % F.sg % 2 ^ F.fr
def Fm.cls (F : Fm) (w : Nat) : Int:=if F.ex w = 0 then (if F.fc w = 0 then 1 else 2) else if F.ex w < F.most then 3 else if F.fc w = 0 then 4 else 5
def Fm.val (F : Fm) (w : Nat) : Dy:=if F.ex w = 0 then mkD (F.ng w) (F.fc w) F.low else mkD (F.ng w) (2 ^ F.fr + F.fc w) (F.ex w - 1 + F.low)
def Fm.ok (F : Fm) (w : Nat) : Prop:=w < 2 * F.sg
def Fm.fin (F : Fm) (w : Nat) : Prop:=F.ex w < F.most
instance (F : Fm) (w : Nat) : Decidable (F.fin w):=inferInstanceAs (Decidable (_ < _))
instance (F : Fm) (w : Nat) : Decidable (F.ok w):=inferInstanceAs (Decidable (_ < _))
theorem ZkR (J : Al G T g) (F : Fm) : run G T 27 [.int .u8 F.u] = some (.bool true):=by
 rw [Zmj J]; cases F <;> rfl
theorem Zfx (J : Al G T g) (F : Fm) {w : Nat} (hw : w < 18446744073709551616) : run G T 149 [.int .u8 F.u,.int .u64 (w : Int)] = some (.int .i64 (if w < 2 * F.sg then 0 else 6)):=by
 rw [Zac G T J.F.Zfx]
 have h1:=ZkR J F
 by_cases hk : w < 2 * F.sg
 ·rw [if_pos hk]
  cases F <;> (
   simp only [Fm.u,Fm.sg] at *
   repeat' (first|simp (maxSteps:=9^7) only [seval,exC,ZeA,h1]|simp (maxSteps:=9^7) (disch:=first|with_reducible assumption|omega) only [dxB]|(simp only [kdB];split)|(simp only [kvB];split)))
 ·rw [if_neg hk]
  cases F <;> (
   simp only [Fm.u,Fm.sg] at *
   repeat' (first|simp (maxSteps:=9^7) only [seval,exC,ZeA,h1]|simp (maxSteps:=9^7) (disch:=first|with_reducible assumption|omega) only [dxB]|(simp only [kdB];split)|(simp only [kvB];split)))
  all_goals omega
theorem ZzD {n n' : Bool} {x x' w w' : Int} (h1 : n = n') (h2 : x = x') (h3 : w = w') : some (AV.agg [.bool n,.int .i64 x,.int .u64 w]) = some (.agg [.bool n',.int .i64 x',.int .u64 w']):=by rw [h1,h2,h3]
theorem Zig (J : Al G T g) (F : Fm) {w : Nat} (hw : w < 18446744073709551616) : run G T 156 [.int .u8 F.u,.int .u64 (w : Int)] = some (fldA (F.ng w) (F.ex w) (F.fc w)):=by
 rw [Zac G T J.F.Zig]
 have h1:=Zlx J F
 have h2:=Zho J F
 cases F <;> (
  simp only [Fm.u,Fm.ng,Fm.ex,Fm.fc,Fm.sg,Fm.fr,fldA,Int.cast_ofNat_Int,Nat.reducePow] at *
  repeat' (first|simp (maxSteps:=9^7) only [seval,exC,Zfh,h1,h2]|simp (maxSteps:=9^7) (disch:=first|with_reducible assumption|omega) only [dxB]|(simp only [kdB];split)|(simp only [kvB];split)))
 ·exact ZzD (by congr 1; apply propext; omega) rfl rfl
 ·exact ZzD (by congr 1; apply propext; omega) rfl rfl
theorem Zkc (J : Al G T g) (F : Fm) {w : Nat} (hw : w < 18446744073709551616) : run G T 155 [.int .u8 F.u,.int .u64 (w : Int)] = some (.int .u8 (F.cls w)):=by
 rw [Zac G T J.F.Zkc]
 have h1:=Zig J F hw
 have h2:=Zlw J F
 unfold Fm.cls
 simp only [fldA] at *
 generalize F.ex w = x at *
 generalize F.fc w = y at *
 repeat' (first|simp (maxSteps:=9^7) only [seval,exC,Zfg,h1,h2]|simp (maxSteps:=9^7) (disch:=first|with_reducible assumption|omega) only [dxB]|(simp only [kdB];split)|(simp only [kvB];split))
 all_goals (refine Zmm ?_; repeat (first | rw [if_pos (by omega)] | rw [if_neg (by omega)]))
theorem ZvP (F : Fm) (w : Nat) : F.fin w↔F.cls w≠4∧F.cls w≠5:=by
 have hm : 0 < F.most:=by cases F <;> decide
 unfold Fm.fin Fm.cls
 generalize F.ex w = x
 generalize F.fc w = y
 repeat' split
 all_goals omega
theorem ZeG (J : Al G T g) (F : Fm) {w : Nat} (hw : w < 18446744073709551616) : run G T 150 [.int .u8 F.u,.int .u64 (w : Int)] = some (.bool (decide (F.fin w))):=by
 rw [Zac G T J.F.ZeG]
 have h1:=Zkc J F hw
 have h2:=ZvP F w
 by_cases h3 : F.fin w
 ·have h4:=h2.1 h3
  rw [decide_eq_true h3]
  clear h2 h3
  generalize F.cls w = c at *
  repeat' (first|simp (maxSteps:=9^7) only [seval,exC,ZcD,h1]|simp (maxSteps:=9^7) (disch:=first|with_reducible assumption|omega) only [dxB]|(simp only [kdB];split)|(simp only [kvB];split))
 ·have h4 : F.cls w = 4∨F.cls w = 5:=by
   by_cases a : F.cls w = 4
   ·exact Or.inl a
   ·by_cases b : F.cls w = 5
    ·exact Or.inr b
    ·exact absurd (h2.2 ⟨a,b⟩) h3
  rw [decide_eq_false h3]
  clear h2 h3
  generalize F.cls w = c at *
  repeat' (first|simp (maxSteps:=9^7) only [seval,exC,ZcD,h1]|simp (maxSteps:=9^7) (disch:=first|with_reducible assumption|omega) only [dxB]|(simp only [kdB];split)|(simp only [kvB];split))
  all_goals (rcases h4 with rfl | rfl <;> simp_all)
theorem Zjz (J : Al G T g) {n : Nat} (hn : n < 18446744073709551616) : ∃ z',run G T 46 [.int .u64 (n : Int)] = some (D z' (dl n)):=by
 apply exP
 rw [Zac G T J.B.Zjz]
 have w1 : (n : Int) % 4294967296 = ((n % 4294967296 : Nat) : Int):=by omega
 have w2 : (n : Int) / 4294967296 % 4294967296 = ((n / 4294967296 : Nat) : Int):=by omega
 have hd : Dg [n % 4294967296,n / 4294967296]:=ZdF.2 ⟨by omega,ZdF.2 ⟨by omega,Dg.nil⟩⟩
 have hv : val [n % 4294967296,n / 4294967296] = n:=by simp only [val]; omega
 obtain ⟨z',hz⟩:=Zdd J (z:=false) hd (by simp)
 rw [hv] at hz
 have hf : fillA (repA 2 [AV.int .u32 0]) [(0,1,.int .u32 ((n % 4294967296 : Nat) : Int)),(1,1,.int .u32 ((n / 4294967296 : Nat) : Int))] = some (cells [n % 4294967296,n / 4294967296]):=rfl
 have hok : (cells [n % 4294967296,n / 4294967296]).all okCell = true:=Zsj _
 have hsn : snapG (Heap.mem ⟨Heap.nil.b ++ [⟨cells [n % 4294967296,n / 4294967296],false⟩],Heap.nil.f⟩) 3 Heap.nil.b.length 0 2 1 = some (D false [n % 4294967296,n / 4294967296]) :=
  ZbW (Zbs FreH.nil [n % 4294967296,n / 4294967296]) (Nat.le_refl 2)
 repeat (first | (simp (maxSteps:=9^7) only [seval,evB,Zjj,w1,w2,hf,hok,hsn,hz]) | (simp (disch:=omega) only [dsB]))
 exact Post.some ⟨z',rfl⟩
theorem ZfU (J : Al G T g) (F : Fm) {w : Nat} (hw : w < 18446744073709551616) (hf : F.fin w) :
  ∃ z,run G T 151 [.int .u8 F.u,.int .u64 (w : Int)] = some (DyA z (F.val w)):=by
 apply exP
 rw [Zac G T J.F.ZfU]
 have h1:=Zig J F hw
 have h2:=ZkS J F
 have h3:=Zho J F
 have hy : F.fc w < 2 ^ F.fr:=Nat.mod_lt _ (Nat.two_pow_pos _)
 have hp : 2 ^ F.fr≤4503599627370496:=by cases F <;> decide
 have hF:=Zak F
 have hm : F.most≤2047:=by cases F <;> decide
 unfold Fm.fin at hf
 unfold Fm.val
 generalize F.ex w = x at *
 generalize F.fc w = y at *
 generalize F.ng w = n at *
 have hb1 : blen y≤53:=Zaf.2 (by omega)
 have hb2 : blen (2 ^ F.fr + y)≤53:=Zaf.2 (by omega)
 have hl1:=Zaa y
 have hl2:=Zaa (2 ^ F.fr + y)
 have hmin : min F.fr 64 = F.fr:=by omega
 have hp0:=Nat.two_pow_pos F.fr
 have hs1 : (1 * (2 : Int) ^ F.fr % 18446744073709551616 + (y : Int)) % 18446744073709551616 = ((2 ^ F.fr + y : Nat) : Int):=by rw [ZaS]; omega
 by_cases h0 : x = 0
 ·obtain ⟨z1,o1⟩:=Zjz J (n:=y) (by omega)
  obtain ⟨z2,o2⟩:=Zbf J (n:=n) (z:=z1) (a:=y) (e:=F.low) (by omega) (by omega)
  subst h0
  rw [if_pos rfl]
  simp only [fldA,DyA,A3,cast0] at *
  repeat' (first|simp (maxSteps:=9^7) only [seval,exC,Zdn,h1,h2,h3,o1,o2]|simp (maxSteps:=9^7) (disch:=first|with_reducible assumption|omega) only [dxB]|(simp only [kdB];split)|(simp only [kvB];split))
  all_goals exact Post.some ⟨z2,rfl⟩
 ·obtain ⟨z1,o1⟩:=Zjz J (n:=2 ^ F.fr + y) (by omega)
  obtain ⟨z2,o2⟩:=Zbf J (n:=n) (z:=z1) (a:=2 ^ F.fr + y) (e:=x - 1 + F.low) (by omega) (by omega)
  rw [if_neg h0]
  simp only [fldA,DyA,A3] at *
  repeat' (first|simp (maxSteps:=9^7) only [seval,exC,Zdn,h1,h2,h3,hmin,hs1,o1,o2]|simp (maxSteps:=9^7) (disch:=first|with_reducible assumption|omega) only [dxB]|(simp only [kdB];split)|(simp only [kvB];split))
  all_goals exact Post.some ⟨z2,rfl⟩
def Fm.up (F : Fm) (w : Nat) : Nat × Bool:=if F.cls w = 4∧F.ng w = false then (0,false) else if F.cls w = 1 then (1,true) else if F.ng w then (w - 1,true) else (w + 1,true)
theorem ZCC (F : Fm) {w : Nat} (hf : F.fin w) : Bd (F.val w) 4096:=by
 have hm : F.most≤2047:=by cases F <;> decide
 have hy : F.fc w < 2 ^ F.fr:=Nat.mod_lt _ (Nat.two_pow_pos _)
 have hp : 2 ^ F.fr≤4503599627370496:=by cases F <;> decide
 have hF:=Zak F
 unfold Fm.fin at hf
 unfold Fm.val
 generalize F.ex w = x at *
 generalize F.fc w = y at *
 have hb1 : blen y≤53:=Zaf.2 (by omega)
 have hb2 : blen (2 ^ F.fr + y)≤53:=Zaf.2 (by omega)
 split
 ·exact Zuc (by omega) (by omega) (by omega)
 ·exact Zuc (by omega) (by omega) (by omega)
section
end
def aboveW (F : Fm) (a b : Nat) : Bool:=if a = F.inf false∨b = F.inf true then true else if a = F.inf true∨b = F.inf false then decide (a = b) else decide (0≤cmpD (F.val a) (F.val b))
theorem ZAP (md : Int) (neg odd : Bool) : upB md neg odd false false = false:=by simp [upB]
theorem ZBR (md : Int) (neg : Bool) (M : Nat) {E u L : Int} (h1 : L≤E) (h2 : L < u) : rnd md neg M E u = rdN md neg (M * 2 ^ (E - L).toNat) false (u - L).toNat:=by
 rw [ZAh _ _ _ _ _ (by omega)]
 unfold rnd
 by_cases h : u≤E
 ·rw [if_pos h,if_pos (by omega),show (E - L).toNat - (u - L).toNat = (E - u).toNat by omega]
 ·rw [if_neg h,if_neg (by omega),show (u - L).toNat - (E - L).toNat = (u - E).toNat by omega]
structure Rd (md : Int) (neg : Bool) (A U W : Nat) (ex b : Bool) : Prop where
 lo : W * U≤A
 hi : A < (W + 1) * U
 exi : ex = true↔A = W * U
 xb : ex = true→b = false
 b3 : md = 3→b = false
 b4 : md = 4→b = (!neg && !ex)
 b5 : md = 5→b = (neg && !ex)
 near : md = 1∨md = 2→(b = true→(2 * W + 1) * U≤2 * A)∧(b = false→2 * A≤(2 * W + 1) * U)
theorem ZDV (md : Int) (neg : Bool) (A : Nat) {k : Nat} (hk : 0 < k) : ∃ b,rdN md neg A false k = (A / 2 ^ k + b.toNat,decide (A % 2 ^ k = 0))∧Rd md neg A (2 ^ k) (A / 2 ^ k) (decide (A % 2 ^ k = 0)) b:=by
 obtain ⟨q1,q2,q3⟩:=Zhl A hk
 have hd:=Nat.div_add_mod A (2 ^ k)
 have hml:=Nat.mod_lt A (Nat.two_pow_pos k)
 refine ⟨upB md neg (decide (A / 2 ^ k % 2 = 1)) (halfN A k) (moreN A false k),?_,?_⟩
 ·simp only [rdN]
  congr 1
  simp only [moreN,Bool.false_or]
  cases hh : halfN A k
  ·rw [hh] at q1; simp only [Bool.false_eq_true,if_false,Nat.zero_add] at q1
   rw [q1]; simp
  ·rw [hh] at q1; simp only [if_true] at q1
   have : A % 2 ^ k≠0:=by omega
   simp [this]
 ·have hmo : moreN A false k = decide (A % 2 ^ (k - 1)≠0):=by simp [moreN]
  rw [hmo]
  generalize halfN A k = hf at *
  generalize A % 2 ^ (k - 1) = S at *
  generalize A % 2 ^ k = R at *
  generalize A / 2 ^ k = W at *
  rw [q3] at *
  generalize 2 ^ (k - 1) = P at *
  have e1 : W * (2 * P) = 2 * P * W:=Nat.mul_comm ..
  have e2 : (W + 1) * (2 * P) = 2 * P * W + 2 * P:=by rw [Nat.add_mul,Nat.one_mul,e1]
  have e3 : (2 * W + 1) * (2 * P) = 2 * (2 * P * W) + 2 * P:=by rw [Nat.add_mul,Nat.one_mul,Nat.mul_assoc,e1]
  refine ⟨by rw [e1]; omega,by rw [e2]; omega,?_,?_,?_,?_,?_,?_⟩
  ·rw [decide_eq_true_eq,e1]; omega
  ·intro h; simp only [decide_eq_true_eq] at h
   have : hf = false∧S = 0:=by cases hf <;> simp at q1 <;> (try constructor) <;> (try rfl) <;> omega
   rw [this.1,this.2]; exact ZAP ..
  ·rintro rfl; simp [upB]
  ·rintro rfl
   cases hf <;> cases neg <;> by_cases hS : S = 0 <;> simp [upB,hS] at q1 ⊢ <;> omega
  ·rintro rfl
   cases hf <;> cases neg <;> by_cases hS : S = 0 <;> simp [upB,hS] at q1 ⊢ <;> omega
  ·rw [e3]
   generalize 2 * P * W = Q at *
   rintro (rfl | rfl)
   ·cases hf <;> by_cases hS : S = 0 <;> simp [upB,hS] at q1 ⊢ <;> (try constructor) <;> (try intro _) <;> omega
   ·cases hf <;> by_cases hS : S = 0 <;> simp [upB,hS] at q1 ⊢ <;> omega
theorem Zqz (md : Int) (neg : Bool) (M : Nat) {E u L : Int} (h1 : L≤E) (h2 : L < u) :
  ∃ b,rnd md neg M E u = (M * 2 ^ (E - L).toNat / 2 ^ (u - L).toNat + b.toNat,decide (M * 2 ^ (E - L).toNat % 2 ^ (u - L).toNat = 0)) ∧
   Rd md neg (M * 2 ^ (E - L).toNat) (2 ^ (u - L).toNat) (M * 2 ^ (E - L).toNat / 2 ^ (u - L).toNat) (decide (M * 2 ^ (E - L).toNat % 2 ^ (u - L).toNat = 0)) b:=by
 rw [ZBR md neg M h1 h2]
 exact ZDV md neg _ (by omega)
theorem ZyA (md : Int) (neg : Bool) {A B : Nat} (h : A≤B) {k : Nat} (hk : 0 < k) : (rdN md neg A false k).1≤(rdN md neg B false k).1:=by
 have hdiv : A / 2 ^ k≤B / 2 ^ k:=Nat.div_le_div_right h
 have hb : ∀ b : Bool,b.toNat≤1:=fun b => by cases b <;> decide
 simp only [rdN]
 by_cases he : A / 2 ^ k = B / 2 ^ k
 ·rw [he]
  obtain ⟨q1,q2,q3⟩:=Zhl A hk
  obtain ⟨r1,r2,_⟩:=Zhl B hk
  have hd:=Nat.div_add_mod A (2 ^ k)
  have hd':=Nat.div_add_mod B (2 ^ k)
  rw [he] at hd
  have hR : A % 2 ^ k≤B % 2 ^ k:=by omega
  have m1 : moreN A false k = decide (A % 2 ^ (k - 1)≠0):=by simp [moreN]
  have m2 : moreN B false k = decide (B % 2 ^ (k - 1)≠0):=by simp [moreN]
  rw [m1,m2]
  generalize halfN A k = f1 at *
  generalize halfN B k = f2 at *
  generalize A % 2 ^ (k - 1) = S1 at *
  generalize B % 2 ^ (k - 1) = S2 at *
  generalize A % 2 ^ k = R1 at *
  generalize B % 2 ^ k = R2 at *
  generalize decide (B / 2 ^ k % 2 = 1) = od
  generalize 2 ^ (k - 1) = P at *
  have hle : (upB md neg od f1 (decide (S1≠0))) = true→(upB md neg od f2 (decide (S2≠0))) = true:=by
   unfold upB
   clear hb m1 m2 hd hd' he hdiv h q3
   cases f1 <;> cases f2 <;> simp only [if_true,if_false,Bool.false_eq_true,Nat.zero_add] at q1 r1 <;> by_cases a : S1 = 0 <;> by_cases b : S2 = 0 <;>
    first
    | (exfalso; omega)
    | (cases neg <;> cases od <;> simp [a,b] <;> (try omega))
  generalize upB md neg od f1 (decide (S1≠0)) = b1 at *
  generalize upB md neg od f2 (decide (S2≠0)) = b2 at *
  cases b1 <;> cases b2 <;> simp at *
 ·have:=hb (upB md neg (decide (A / 2 ^ k % 2 = 1)) (halfN A k) (moreN A false k))
  omega
def Fm.i0 (F : Fm) : Nat:=F.most * 2 ^ F.fr
theorem ZlM (F : Fm) (n : Bool) : F.inf n = F.i0 + F.sgn n:=rfl
theorem ZdS (F : Fm) : F.i0 + 2 ^ F.fr = F.sg∧0 < F.i0∧0 < F.sg∧F.sg≤9223372036854775808∧F.i0 < F.sg:=by cases F <;> decide
def magN (F : Fm) (s : Nat) : Nat:=if s / 2 ^ F.fr = 0 then s % 2 ^ F.fr else (2 ^ F.fr + s % 2 ^ F.fr) * 2 ^ (s / 2 ^ F.fr - 1)
theorem Zqh (F : Fm) (s : Nat) : magN F s < magN F (s + 1):=by
 unfold magN
 have hp:=Nat.two_pow_pos F.fr
 generalize 2 ^ F.fr = P at *
 have hd:=Nat.div_add_mod s P
 have hm:=Nat.mod_lt s hp
 have hd':=Nat.div_add_mod (s + 1) P
 have hm':=Nat.mod_lt (s + 1) hp
 by_cases h : s % P + 1 < P
 ·have e1 : (s + 1) / P = s / P:=by
   rw [Nat.div_eq_of_lt_le] <;> (rw [Nat.mul_comm]; try rw [Nat.mul_add]) <;> omega
  have e2 : (s + 1) % P = s % P + 1:=by rw [e1] at hd'; omega
  rw [e1,e2]
  by_cases h0 : s / P = 0
  ·rw [if_pos h0,if_pos h0]; omega
  ·rw [if_neg h0,if_neg h0]
   exact Nat.mul_lt_mul_of_pos_right (by omega) (Nat.two_pow_pos _)
 ·have e1 : (s + 1) / P = s / P + 1:=by
   rw [Nat.div_eq_of_lt_le] <;> (rw [Nat.mul_comm]; rw [Nat.mul_add]; try rw [Nat.mul_add]) <;> omega
  have e2 : (s + 1) % P = 0:=by rw [e1,Nat.mul_add] at hd'; generalize P * (s / P) = Q at *; omega
  have e3 : ¬ (s / P + 1 = 0):=by generalize s / P = Q; omega
  rw [e1,e2]
  by_cases h0 : s / P = 0
  ·rw [if_pos h0,h0]; simp; omega
  ·rw [if_neg h0,if_neg e3]
   obtain ⟨k,hk⟩:=Nat.exists_eq_succ_of_ne_zero h0
   rw [hk]
   simp only [Nat.add_sub_cancel,Nat.add_zero]
   rw [Nat.pow_succ,← Nat.mul_assoc,Nat.mul_comm (P * 2 ^ k) 2,← Nat.mul_assoc]
   exact Nat.mul_lt_mul_of_pos_right (by omega) (Nat.two_pow_pos _)
theorem ZBA (F : Fm) {a b : Nat} (h : a < b) : magN F a < magN F b:=by
 obtain ⟨k,rfl⟩ : ∃ k,b = a + 1 + k:=⟨b - a - 1,by omega⟩
 clear h
 induction k with
 | zero => exact Zqh F a
 | succ k ih => exact Nat.lt_trans ih (Zqh F _)
theorem Zrr (F : Fm) {a b : Nat} (h : a≤b) : magN F a≤magN F b:=by
 rcases Nat.lt_or_ge a b with h1 | h1
 ·exact Nat.le_of_lt (ZBA F h1)
 ·rw [Nat.le_antisymm h h1]; exact Nat.le_refl _
theorem Zwr (F : Fm) : magN F 0 = 0:=by simp [magN]
theorem ZkD (F : Fm) {n : Nat} {u : Int} (h1 : n≤2 ^ (F.fr + 1)) (h2 : F.low≤u) (h3 : u = F.low∨2 ^ F.fr≤n) : magN F (F.enc n u) = n * 2 ^ (u - F.low).toNat:=by
 unfold magN Fm.enc
 have hp:=Nat.two_pow_pos F.fr
 rw [Nat.pow_succ] at h1
 generalize 2 ^ F.fr = P at *
 generalize hk : (u - F.low).toNat = k at *
 have h3' : k = 0∨P≤n:=by omega
 clear h3 h2 hk
 have q : ∀ j r,r < P→(j * P + r) / P = j∧(j * P + r) % P = r:=fun j r hr => by
  constructor
  ·rw [Nat.mul_comm,Nat.mul_add_div hp,Nat.div_eq_of_lt hr]; rfl
  ·rw [Nat.mul_comm,Nat.mul_add_mod,Nat.mod_eq_of_lt hr]
 rcases Nat.lt_or_ge n P with h | h
 ·obtain rfl : k = 0:=by omega
  obtain ⟨e1,e2⟩:=q 0 n h
  rw [e1,e2]; simp
 ·rcases Nat.lt_or_ge n (2 * P) with h4 | h4
  ·obtain ⟨e1,e2⟩:=q (k + 1) (n - P) (by omega)
   have e3 : (k + 1) * P + (n - P) = k * P + n:=by rw [Nat.add_mul]; omega
   rw [e3] at e1 e2
   rw [e1,e2,if_neg (by omega),Nat.add_sub_cancel,show P + (n - P) = n by omega]
  ·obtain rfl : n = 2 * P:=by omega
   obtain ⟨e1,e2⟩:=q (k + 2) 0 hp
   have e3 : (k + 2) * P + 0 = k * P + 2 * P:=by rw [Nat.add_mul]; rfl
   rw [e3] at e1 e2
   rw [e1,e2,if_neg (by omega),show k + 2 - 1 = k + 1 by omega,Nat.pow_succ,Nat.add_zero,Nat.mul_comm (2 ^ k) 2,← Nat.mul_assoc,Nat.mul_comm P 2]
theorem ZeO {F : Fm} {s : Nat} (n : Bool) (h : s < F.sg) : (s + F.sgn n) % F.sg = s∧F.ng (s + F.sgn n) = n:=by
 unfold Fm.sgn Fm.ng
 cases n
 ·simp only [Bool.false_eq_true,if_false,Nat.add_zero]
  exact ⟨Nat.mod_eq_of_lt h,decide_eq_false (by omega)⟩
 ·simp only [if_true]
  exact ⟨by rw [Nat.add_mod_right]; exact Nat.mod_eq_of_lt h,decide_eq_true (by omega)⟩
theorem ZcL {F : Fm} {s : Nat} (n : Bool) (h : s < F.i0) : F.fin (s + F.sgn n):=by
 have hi:=ZdS F
 unfold Fm.fin Fm.ex
 rw [(ZeO n (by omega : s < F.sg)).1]
 exact Nat.div_lt_of_lt_mul (by rw [Nat.mul_comm]; exact h)
theorem Zot (F : Fm) (n : Bool) : F.cls (F.inf n) = 4:=by cases F <;> cases n <;> decide
theorem ZsF {F : Fm} {s : Nat} (n : Bool) (h : s < F.i0) : iv (F.val (s + F.sgn n)) F.low = (if n then -1 else 1) * (magN F s : Int)∧LoE (F.val (s + F.sgn n)) F.low∧Nz (F.val (s + F.sgn n)):=by
 have hi:=ZdS F
 obtain ⟨e1,e2⟩:=ZeO n (by omega : s < F.sg)
 unfold Fm.val Fm.ex Fm.fc magN
 rw [e1,e2]
 split
 ·next h0 =>
  refine ⟨?_,ZfA (Int.le_refl _),ZnE ..⟩
  rw [ZlT (Int.le_refl _),Int.sub_self]; simp
 ·next h0 =>
  have hx : F.low≤(s / 2 ^ F.fr : Nat) - 1 + F.low:=by generalize s / 2 ^ F.fr = Q at *; omega
  refine ⟨?_,ZfA hx,ZnE ..⟩
  rw [ZlT hx,show ((s / 2 ^ F.fr : Nat) - 1 + F.low - F.low : Int).toNat = s / 2 ^ F.fr - 1 by generalize s / 2 ^ F.fr = Q at *; omega]
theorem ZxZ (F : Fm) (n : Nat) (u : Int) : F.enc (n + 1) u = F.enc n u + 1:=rfl
theorem ZiH (F : Fm) {n : Nat} {u : Int} (h1 : n≤2 ^ (F.fr + 1)) (h2 : F.low≤u) (h3 : u = F.low∨2 ^ F.fr≤n) : (F.wide < blen n + u)↔F.i0≤F.enc n u:=by
 constructor
 ·intro h
  have hF:=Zak F
  have h3' : 2 ^ F.fr≤n:=by
   rcases h3 with h3 | h3
   ·exfalso
    have : blen n≤F.fr + 2:=Zaf.2 (Nat.lt_of_le_of_lt h1 (Nat.pow_lt_pow_right (by decide) (by omega)))
    omega
   ·exact h3
  have hb:=Zau.2 h3'
  have hm : (F.most : Int) = F.wide - F.low - F.fr + 1:=by cases F <;> decide
  unfold Fm.i0 Fm.enc
  rcases Nat.lt_or_ge n (2 ^ (F.fr + 1)) with h4 | h4
  ·have:=Zaf.2 h4
   obtain ⟨k,hk⟩ : ∃ k,(u - F.low).toNat = k:=⟨_,rfl⟩
   have h5 : F.most≤k + 1:=by omega
   have h6:=Nat.mul_le_mul_right (2 ^ F.fr) h5
   rw [Nat.add_mul,Nat.one_mul] at h6
   rw [hk]; omega
  ·have h7 : n = 2 ^ F.fr * 2:=by rw [Nat.pow_succ] at h1 h4; omega
   have h8 : blen n = F.fr + 2:=by
    have:=Zam (n:=1) (by decide) (F.fr + 1)
    rw [Nat.one_mul,Nat.pow_succ,← h7,show blen 1 = 1 from rfl] at this; omega
   obtain ⟨k,hk⟩ : ∃ k,(u - F.low).toNat = k:=⟨_,rfl⟩
   have h5 : F.most≤k + 2:=by omega
   have h6:=Nat.mul_le_mul_right (2 ^ F.fr) h5
   rw [Nat.add_mul] at h6
   rw [hk]; omega
 ·intro h
  by_cases hw : F.wide < blen n + u
  ·exact hw
  ·exfalso
   by_cases h0 : n = 0
   ·subst h0
    have hu : u = F.low:=by
     rcases h3 with h3 | h3
     ·exact h3
     ·have:=Nat.two_pow_pos F.fr; omega
    rw [hu] at h
    have:=(ZdS F).2.1
    simp [Fm.enc] at h; omega
   ·have:=ZzA (Zmd (F:=F) (neg:=false) h0 h1 h2 (by omega))
    rw [Zwv h0 h1 h2 h3] at this
    unfold Fm.i0 at h; omega
end Go.Cv
