/-
 A part of the proof of the statements of this seat (texts that the law's own text leans on): no condition.
-/
import Derived.Test.YtddmoldiopnifaaGreatDoorM16
import Derived.Test.YtddmoldiopnifaaGreatDoorM14
set_option linter.unusedVariables false
set_option linter.unusedSimpArgs false
namespace Go.Cv
variable {G : Nat→Option (List AV)} {T : Tbl} {g : Nat}
theorem Ans.use {F : Fm} {res : List IRes} {body : IC} {args : List (Nat × AV)} {k : Nat} {v : AV} {e : Int} {n m : Nat} (h : Ans F res body args k v e n m G T) {bs : List Blk} (hk : bs[k]? = some (engB F.u n)) :
  ∃ B : List Blk,kJ G res (evL G T body ((0,.ptr k 0) :: args) ⟨bs,[]⟩) = some (.tup [v,.int .i64 e],⟨B,[]⟩)∧B[k]? = some (engB F.u m)∧(∀ (i : Nat) (b : Blk),i≠k→bs[i]? = some b→B[i]? = some b):=by
 obtain ⟨bs',q⟩:=h.run bs hk
 have hl : (bs.set k (engB F.u m)).length = bs.length:=List.length_set ..
 refine ⟨_,q,ZwN (Zzf hk m),fun i b hi hb => ?_⟩
 have hi2:=(List.getElem?_eq_some_iff.1 hb).1
 rw [List.getElem?_append_left (by omega),List.getElem?_set_ne (by omega),hb]
theorem ZbZ {bs : List Blk} {i : Nat} {b : Blk} (h : bs[i]? = some b) (L : List Blk) : (bs ++ L)[i]? = some b:=by
 rw [List.getElem?_append_left (List.getElem?_eq_some_iff.1 h).1]; exact h
theorem ZnA (hL : HasL g T) (hM : HasM g T) {bs : List Blk} {k n : Nat} {f : Int} (h : bs[k]? = some (engB f n)) (L : List Blk) :
  kJ G Zao.res (evL G T Zao.body [(0,.ptr k 0)] ⟨bs ++ L,[]⟩) = some (.int .u64 (n : Int),⟨bs ++ L,[]⟩):=Zoo hL hM (ZwN h)
theorem Zyv : mulZ .d 1 9218868437227405312 0 4607182418800017408 4607182418800017408 = ((9218868437227405312,0),(9218868437227405312,0)):=by decide +kernel
theorem ZjB (J : Al G T g) (hM : HasM g T) (hL : HasL g T) : run G T 329 [] = some (.bool true):=by
 rw [Zab G T hM.ZjB]
 have x1:=Zmg J .d (md:=1) (by decide) (a:=9218868437227405312) (b:=0) (c:=4607182418800017408) (d:=4607182418800017408) (by decide) (by decide) (by decide) (by decide)
 rw [Zyv] at x1
 have n1:=ZsP (G:=G) hM .d (bs:=[])
 obtain ⟨B,m1,hk,_⟩:=(ZwG J hM hL .d (k:=0) (n:=0) (a:=9218868437227405312) (b:=0) (c:=4607182418800017408) (d:=4607182418800017408) (by constructor <;> decide) (by constructor <;> decide) (by decide) (by decide) x1).use (bs:=[engB 2 0]) rfl
 have f1:=ZnA (G:=G) hL hM hk
 have hnil : (Heap.nil : Heap) = ⟨[],[]⟩:=rfl
 simp only [zA,Fm.u,List.nil_append,List.length_nil,cast0,Int.cast_ofNat_Int,show ((0 : Nat) : Int) = 0 from rfl,show ((0 + 1 : Nat) : Int) = 1 from rfl] at *
 repeat' (first|simp (maxSteps:=9^7) only [seval,exC,ZfY,fcB,gaB,ZaB G T hM.fast_New,ZaB G T hM.fast_Engine_Mul,ZaB G T hM.fast_Engine_Falls,n1,m1,f1,Zpo,Zpq,and_self,hnil]|simp (maxSteps:=9^7) (disch:=first|with_reducible assumption|omega) only [dxB]|(simp only [kdB];split)|(simp only [kvB];split))
theorem ZpM {res : List IRes} {body : IC} {args : List (Nat × AV)} {v : AV} {e : Int} {bs : List Blk} (h : ∃ bs',kJ G res (evL G T body ((0,.np) :: args) ⟨bs,[]⟩) = some (.tup [v,.int .i64 e],⟨bs ++ bs',[]⟩)) :
  ∃ B : List Blk,kJ G res (evL G T body ((0,.np) :: args) ⟨bs,[]⟩) = some (.tup [v,.int .i64 e],⟨B,[]⟩)∧∀ (i : Nat) (b : Blk),bs[i]? = some b→B[i]? = some b:=by
 obtain ⟨bs',q⟩:=h
 exact ⟨_,q,fun i b hb => ZbZ hb bs'⟩
set_option maxHeartbeats 8000000 in
theorem ZjT (J : Al G T g) (hM : HasM g T) (hL : HasL g T) {f : Int} {a b : Nat} (ha : a < 18446744073709551616) (hb : b < 18446744073709551616) : run G T 319 [.int .u8 f,zA a b] = some (.bool true):=by
 rw [Zab G T hM.ZjT]
 have hK:=ZjB (G:=G) J hM hL
 have hnil : (Heap.nil : Heap) = ⟨[],[]⟩:=rfl
 have c1:=ZaB G T hM.fast_New
 have c2:=ZaB G T hM.fast_Engine_Mul
 have c3:=ZaB G T hM.fast_Engine_Div
 have c4:=ZaB G T hM.fast_Engine_Abs
 have c5:=ZaB G T hM.fast_Engine_Falls
 have z1:=fun h => Zrw (G:=G) hM (h:=h)
 by_cases hf : f = 1∨f = 2
 ·obtain ⟨F,rfl⟩:=ZFC hf
  have w1:=ZdF (G:=G) hM F
  have w2:=ZhI (G:=G) hM F
  have s1:=Zkx J F
  have n1:=ZsP (G:=G) hM F (bs:=[zblk (a,b)])
  obtain ⟨B1,m1,e1⟩:=ZpM (ZBh (G:=G) hM (a:=a) (b:=b) (c:=a) (d:=b) (bs:=[zblk (a,b),engB F.u 0]))
  have p0:=e1 0 _ rfl
  have p1:=e1 1 _ rfl
  obtain ⟨B2,m2,e2⟩:=ZpM (ZBg (G:=G) hM (a:=a) (b:=b) (c:=a) (d:=b) (bs:=B1 ++ [⟨[.int .u64 0,.int .u64 0],false⟩]))
  have q0:=e2 0 _ (ZbZ p0 _)
  have q1:=e2 1 _ (ZbZ p1 _)
  have q2:=e2 B1.length _ (by rw [ga0]; rfl)
  obtain ⟨B3,m3,e3⟩:=ZpM (ZBc (G:=G) hM (a:=a) (b:=b) (bs:=B2 ++ [⟨[.int .u64 0,.int .u64 0],false⟩]))
  have r0:=e3 0 _ (ZbZ q0 _)
  have r1:=e3 1 _ (ZbZ q1 _)
  have r2:=e3 B1.length _ (ZbZ q2 _)
  have r3:=e3 B2.length _ (by rw [ga0]; rfl)
  have f1:=Zoo (G:=G) hL hM r1
  have g1:=ZoY J F ha hb
  have p0':=fun L => ZbZ p0 L
  have q0':=fun L => ZbZ q0 L
  have r0':=fun L => ZbZ r0 L
  have r3':=fun L => ZbZ r3 L
  have r2':=fun L => ZbZ r2 L
  have r1':=fun L => Zoo (G:=G) hL hM (ZbZ r1 L)
  clear e1 e2 e3 p1 q1 q2
  by_cases hz : a < 2 * F.sg∧b < 2 * F.sg
  ·have i1:=Znc J hM F hz.1 hz.2
   have i2:=ZmD J hM F (Zbx hz.1) (Zbx hz.2)
   rw [if_pos hz] at g1
   generalize decide (inW F a∧inW F b) = r at *
   clear r1 ha hb hz hf
   generalize (F.win : Int) = wn at *
   unfold zblk at *
   generalize F.u = fu at *
   simp only [zA,cast0,List.cons_append,List.nil_append,List.length_cons,List.length_nil,Nat.zero_add,show ((0 : Nat) : Int) = 0 from rfl] at *
   cases r
   all_goals repeat' (first|simp (maxSteps:=9^7) only [seval,exC,Zbf,fcB,gaB,c1,c2,c3,c4,c5,n1,m1,m2,m3,z1,f1,r1',p0,q0,r0,r2,r3,p0',q0',r0',r2',r3',w1,w2,s1,i1,i2,g1,hK,Zpo,Zpq,Ztr,and_self,ZlK,hnil]|simp (maxSteps:=9^7) (disch:=first|with_reducible assumption|omega) only [dxB]|(simp only [kdB];split)|(simp only [kvB];split))
  ·have i1:=Zou J hM F ha hb hz
   rw [if_neg hz] at g1
   clear r1 ha hb hz hf
   generalize (F.win : Int) = wn at *
   unfold zblk at *
   generalize F.u = fu at *
   simp only [zA,cast0,List.cons_append,List.nil_append,List.length_cons,List.length_nil,Nat.zero_add,show ((0 : Nat) : Int) = 0 from rfl] at *
   repeat' (first|simp (maxSteps:=9^7) only [seval,exC,Zbf,fcB,gaB,c1,c2,c3,c4,c5,n1,m1,m2,m3,z1,f1,r1',p0,q0,r0,r2,r3,p0',q0',r0',r2',r3',w1,w2,s1,i1,g1,hK,Zpo,Zpq,Ztr,and_self,ZlK,hnil]|simp (maxSteps:=9^7) (disch:=first|with_reducible assumption|omega) only [dxB]|(simp only [kdB];split)|(simp only [kvB];split))
 ·have w1:=ZhW (G:=G) hM hf
  have s1:=ZmA J (f:=f)
  rw [decide_eq_false hf] at s1
  have i1:=Zwf (G:=G) hM hf (a:=a) (b:=b)
  have n1:=ZpF (G:=G) hM hf (bs:=[zblk (a,b)])
  obtain ⟨B1,m1,e1⟩:=ZpM (ZBh (G:=G) hM (a:=a) (b:=b) (c:=a) (d:=b) (bs:=[zblk (a,b)]))
  have p0:=e1 0 _ rfl
  obtain ⟨B2,m2,e2⟩:=ZpM (ZBg (G:=G) hM (a:=a) (b:=b) (c:=a) (d:=b) (bs:=B1 ++ [⟨[.int .u64 0,.int .u64 0],false⟩]))
  have q0:=e2 0 _ (ZbZ p0 _)
  have q2:=e2 B1.length _ (by rw [ga0]; rfl)
  obtain ⟨B3,m3,e3⟩:=ZpM (ZBc (G:=G) hM (a:=a) (b:=b) (bs:=B2 ++ [⟨[.int .u64 0,.int .u64 0],false⟩]))
  have r0:=e3 0 _ (ZbZ q0 _)
  have r2:=e3 B1.length _ (ZbZ q2 _)
  have r3:=e3 B2.length _ (by rw [ga0]; rfl)
  have p0':=fun L => ZbZ p0 L
  have q0':=fun L => ZbZ q0 L
  have r0':=fun L => ZbZ r0 L
  have r3':=fun L => ZbZ r3 L
  have r2':=fun L => ZbZ r2 L
  clear e1 e2 e3 q2 hf
  unfold zblk at *
  simp only [zA,cast0,List.cons_append,List.nil_append,List.length_cons,List.length_nil,Nat.zero_add,show ((0 : Nat) : Int) = 0 from rfl] at *
  repeat' (first|simp (maxSteps:=9^7) only [seval,exC,Zbf,fcB,gaB,c1,c2,c3,c4,c5,n1,m1,m2,m3,z1,p0,q0,r0,r2,r3,p0',q0',r0',r2',r3',w1,s1,i1,hK,Zpo,Zpq,Ztr,and_self,ZlK,hnil]|simp (maxSteps:=9^7) (disch:=first|with_reducible assumption|omega) only [dxB]|(simp only [kdB];split)|(simp only [kvB];split))
def Rl (U : Nat) (n r : Int) : Prop:=U * (n - r).natAbs≤n.natAbs
theorem ZDh (U : Nat) : Rl U 0 0:=by unfold Rl; simp
theorem ZDi {p : Nat} (hp : 1≤p) {n r : Int} (h : Rn p n r) : Rl (2 ^ p) n r:=by
 obtain ⟨_,_,h3,h4⟩:=h
 unfold Rl
 by_cases hk : bl n≤p
 ·have e : P2 (bl n - p) = 1:=by rw [show bl n - p = 0 by omega]; rfl
  rw [e] at h3 h4
  have : n - r = 0:=by omega
  rw [this]; simp
 ·have h0 : n≠0:=fun q => hk (by rw [q]; exact Nat.zero_le _)
  have hg:=ZEV h0
  obtain ⟨k,ek⟩ : ∃ k,k = bl n - p:=⟨_,rfl⟩
  rw [← ek] at h3 h4
  have e1 : bl n - 1 = k + (p - 1):=by omega
  rw [e1] at hg
  have e2 : (2 : Nat) ^ p = 2 * 2 ^ (p - 1):=by rw [show p = (p - 1) + 1 by omega,Nat.pow_succ,Nat.add_sub_cancel]; omega
  have e3 : P2 (k + (p - 1)) = P2 k * P2 (p - 1):=by unfold P2; rw [Nat.pow_add]; exact Int.natCast_mul ..
  rw [e3] at hg
  have hb : 2 * (n - r).natAbs≤(P2 k).toNat:=by have:=Zod k; omega
  have e4 : (P2 k).toNat = 2 ^ k:=rfl
  have e5 : P2 k * P2 (p - 1) = ((2 ^ k * 2 ^ (p - 1) : Nat) : Int):=by unfold P2; exact (Int.natCast_mul ..).symm
  rw [e5] at hg
  rw [e4] at hb
  have hm:=Nat.mul_le_mul_right (2 ^ (p - 1)) hb
  rw [e2,Nat.mul_assoc,Nat.mul_comm (2 ^ (p - 1)) (n - r).natAbs,← Nat.mul_assoc]
  omega
theorem ZHs {n : Int} {k : Nat} (h : n.natAbs < 2 ^ k) : bl n≤k:=Zaf.2 h
theorem ZAN (F : Fm) {d : Dy} (h0 : d.m≠0) (ht : d.e + blen d.m < F.wide) : (rndW F 1 d).2≠20:=by
 have hF:=ZaU F
 have hw : F.low + F.fr + 2 < F.wide:=by cases F <;> decide
 obtain ⟨b1,_,_,_⟩:=ZkH F (md:=1) h0
 unfold rndW
 simp only [if_neg h0]
 have hE : F.eOf (d.e + blen d.m) = max (d.e + blen d.m - F.fr - 1) F.low:=rfl
 have hb : blen (rnd 1 d.n d.m d.e (F.eOf (d.e + blen d.m))).1≤F.fr + 2:=Zaf.2 (by rw [Nat.pow_succ 2 (F.fr + 1)]; have:=Nat.two_pow_pos (F.fr + 1); omega)
 unfold wordOf
 rw [if_neg (by omega)]
 simp only
 split
 ·decide
 ·split <;> decide
theorem ZGY {d : Dy} {L : Int} {k : Nat} (h0 : d.m≠0) (hl : LoE d L) (h : (iv d L).natAbs < 2 ^ k) : d.e + blen d.m≤L + k:=by
 have h1:=ZHs h
 rw [ZEW,Zau h0] at h1
 have:=ZHx hl h0
 omega
theorem Zlk (F : Fm) {d : Dy} (hl : LoE d F.low) {k : Nat} (h : (iv d F.low).natAbs < 2 ^ k) (hk : F.low + k < F.wide) : (sumW F 1 d).2≠20:=by
 unfold sumW
 by_cases h0 : d.m = 0
 ·rw [if_pos h0]; exact (by decide : (0 : Nat)≠20)
 ·rw [if_neg h0]
  exact ZAN F h0 (by have:=ZGY h0 hl h; omega)
structure Fb (F : Fm) (w k : Nat) : Prop where
 lt : w < 2 * F.sg
 fin : F.fin w
 hi : (F.X w).natAbs < 2 ^ k
def F1 (F : Fm) : Nat:=2 ^ (F.fr + 1)
theorem ZDf {U : Nat} {n r : Int} (hU : 1≤U) (h : Rl U n r) : r.natAbs≤2 * n.natAbs:=by
 unfold Rl at h
 have : 1 * (n - r).natAbs≤U * (n - r).natAbs:=Nat.mul_le_mul_right _ hU
 omega
theorem ZDa (F : Fm) : 16777216≤F1 F:=by cases F <;> decide
theorem ZEM (F : Fm) {a b k : Nat} (ha : Fb F a k) (hb : Fb F b k) (hk : F.low + (k + 1 : Nat) < F.wide) : Fb F (addW F 1 a b).1 (k + 2)∧Rl (F1 F) (F.X a + F.X b) (F.X (addW F 1 a b).1):=by
 have hs : (F.X a + F.X b).natAbs < 2 ^ (k + 1):=by have:=ha.hi; have:=hb.hi; rw [Nat.pow_succ]; omega
 have hv : (addW F 1 a b).2≠20:=by
  unfold addW
  rw [ZiN F 1 (Zas.1 ha.fin) (Zas.1 hb.fin)]
  by_cases q : F.cls a = 1∧F.cls b = 1∧F.ng a = F.ng b
  ·rw [if_pos q]; exact (by decide : (0 : Nat)≠20)
  ·rw [if_neg q]
   obtain ⟨i1,i2⟩:=ZdR (ZbK ha.fin) (ZbK hb.fin)
   exact Zlk F i2 (by rw [i1]; exact hs) hk
 obtain ⟨h1,h2,h3⟩:=ZwK F ha.lt hb.lt ha.fin hb.fin hv
 have h4:=ZDi (by omega) h3
 have:=ZDf (Nat.one_le_two_pow) h4
 exact ⟨⟨h1,h2,by rw [Nat.pow_succ 2 (k + 1)]; omega⟩,h4⟩
theorem ZGV (F : Fm) {a b k : Nat} (ha : Fb F a k) (hb : Fb F b k) (hk : F.low + (k + 1 : Nat) < F.wide) : Fb F (subW F 1 a b).1 (k + 2)∧Rl (F1 F) (F.X a - F.X b) (F.X (subW F 1 a b).1):=by
 have hs : (F.X a - F.X b).natAbs < 2 ^ (k + 1):=by have:=ha.hi; have:=hb.hi; rw [Nat.pow_succ]; omega
 have hv : (subW F 1 a b).2≠20:=by
  unfold subW
  rw [ZiN F 1 (Zas.1 ha.fin) (Zas.1 hb.fin)]
  by_cases q : F.cls a = 1∧F.cls b = 1∧F.ng a = !F.ng b
  ·rw [if_pos q]; exact (by decide : (0 : Nat)≠20)
  ·rw [if_neg q]
   obtain ⟨i1,i2⟩:=Zmk (ZbK ha.fin) (ZbK hb.fin)
   exact Zlk F i2 (by rw [show addD (F.vl a) (negD (F.vl b)) = subD (F.vl a) (F.vl b) from rfl,i1]; exact hs) hk
 obtain ⟨h1,h2,h3⟩:=Zzs F ha.lt hb.lt ha.fin hb.fin hv
 have h4:=ZDi (by omega) h3
 have:=ZDf (Nat.one_le_two_pow) h4
 exact ⟨⟨h1,h2,by rw [Nat.pow_succ 2 (k + 1)]; omega⟩,h4⟩
def Fm.sh (F : Fm) : Nat:=(-F.low).toNat
theorem ZGj (F : Fm) {a b k : Nat} {A B : Int} (ha : Fb F a k) (hb : Fb F b k) (la : LoE (F.vl a) A) (lb : LoE (F.vl b) B) (hAB : F.low≤A + B) (hk : F.low + F.low + (2 * k : Nat) < F.wide) :
  Fb F (mulW2 F 1 a b).1 (2 * k - F.sh + 1)∧Rl (F1 F) (F.X a * F.X b) (F.X (mulW2 F 1 a b).1 * (2 ^ F.sh : Nat)):=by
 have hF:=ZaU F
 have hsh : (F.sh : Int) = -F.low:=by unfold Fm.sh; omega
 obtain ⟨i0,l0⟩:=Zcj (ZbK ha.fin) (ZbK hb.fin)
 have l1 : LoE (mulD (F.vl a) (F.vl b)) F.low:=(Zcj la lb).2.mono hAB
 have hsc:=ZnG (L':=F.low + F.low) l1 (by omega)
 rw [i0,show (F.low - (F.low + F.low)).toNat = F.sh by omega] at hsc
 change F.X a * F.X b = _ at hsc
 have hm : (F.X a * F.X b).natAbs < 2 ^ (2 * k):=by
  rw [Int.natAbs_mul,show 2 * k = k + k by omega,Nat.pow_add]
  exact Nat.mul_lt_mul'' ha.hi hb.hi
 have hlt : (iv (mulD (F.vl a) (F.vl b)) F.low).natAbs < 2 ^ (2 * k - F.sh):=by
  rw [hsc,Int.natAbs_mul,Int.natAbs_natCast] at hm
  by_cases hks : F.sh≤2 * k
  ·rw [show 2 * k = (2 * k - F.sh) + F.sh by omega,Nat.pow_add] at hm
   exact Nat.lt_of_mul_lt_mul_right hm
  ·have h0 : (iv (mulD (F.vl a) (F.vl b)) F.low).natAbs = 0:=by
    rcases Nat.eq_zero_or_pos (iv (mulD (F.vl a) (F.vl b)) F.low).natAbs with q | q
    ·exact q
    ·exfalso
     have h1 : 1 * 2 ^ F.sh≤(iv (mulD (F.vl a) (F.vl b)) F.low).natAbs * 2 ^ F.sh:=Nat.mul_le_mul_right _ q
     have h2 : 2 ^ (2 * k)≤2 ^ F.sh:=Nat.pow_le_pow_right (by decide) (by omega)
     omega
   rw [h0]; exact Nat.two_pow_pos _
 by_cases hz : F.cls a = 1∨F.cls b = 1
 ·have e : mulW2 F 1 a b = (F.sgn (F.ng a != F.ng b),0):=by unfold mulW2; rw [ZnL F 1 (Zas.1 ha.fin) (Zas.1 hb.fin),if_pos hz]
  have hx : F.X a * F.X b = 0:=by
   rcases hz with q | q
   ·rw [Znp ha.lt q,Int.zero_mul]
   ·rw [Znp hb.lt q,Int.mul_zero]
  rw [e,hx]
  obtain ⟨g1,g2,_⟩:=ZlF F (F.ng a != F.ng b)
  refine ⟨⟨g1,g2,?_⟩,?_⟩
  ·show (F.X (F.sgn (F.ng a != F.ng b))).natAbs < _
   rw [ZzO]; exact Nat.two_pow_pos _
  ·show Rl _ _ (F.X (F.sgn (F.ng a != F.ng b)) * _)
   rw [ZzO,Int.zero_mul]; exact ZDh _
 ·have e : mulW2 F 1 a b = sumW F 1 (mulD (F.vl a) (F.vl b)):=by unfold mulW2; rw [ZnL F 1 (Zas.1 ha.fin) (Zas.1 hb.fin),if_neg hz]
  rw [e]
  obtain ⟨h1,h2,h3⟩:=ZvH F l1 (Zlk F l1 hlt (by omega))
  have h4:=ZDi (by omega) h3
  have h5:=ZDf (Nat.one_le_two_pow) h4
  refine ⟨⟨h1,h2,by rw [Nat.pow_succ]; omega⟩,?_⟩
  rw [hsc]
  unfold Rl at h4 ⊢
  rw [← Int.sub_mul,Int.natAbs_mul,Int.natAbs_mul,Int.natAbs_natCast,← Nat.mul_assoc]
  exact Nat.mul_le_mul_right _ h4
def Fm.lo (F : Fm) : Nat:=F.fr + F.wlo - 1
def Fm.hi (F : Fm) : Nat:=F.fr + F.whi
theorem Zlu {F : Fm} {w : Nat} (hw : w < 2 * F.sg) (h : inW F w) : Fb F w F.hi∧2 ^ F.lo≤(F.X w).natAbs∧LoE (F.vl w) (F.wlo - 1 + F.low):=by
 have hF:=ZaU F
 have hm : F.whi < F.most∧1≤F.wlo∧F.wlo≤F.whi:=by cases F <;> decide
 obtain ⟨h1,h2⟩:=h
 have hf : F.fin w:=by unfold Fm.fin; omega
 have hfc : F.fc w < 2 ^ F.fr:=by unfold Fm.fc; exact Nat.mod_lt _ (Nat.two_pow_pos _)
 have hv : F.vl w = mkD (F.ng w) (2 ^ F.fr + F.fc w) (F.ex w - 1 + F.low):=by
  rw [ZbY hf]; unfold Fm.val; rw [if_neg (by omega)]
 have hx : F.X w = (if F.ng w then -1 else 1) * (((2 ^ F.fr + F.fc w) * 2 ^ (F.ex w - 1) : Nat) : Int):=by
  unfold Fm.X
  rw [hv,Zia (by omega),show ((F.ex w : Int) - 1 + F.low - F.low).toNat = F.ex w - 1 by omega]
 have ha : (F.X w).natAbs = (2 ^ F.fr + F.fc w) * 2 ^ (F.ex w - 1):=by
  rw [hx,Int.natAbs_mul,Int.natAbs_natCast]
  cases F.ng w <;> simp
 refine ⟨⟨hw,hf,?_⟩,?_,?_⟩
 ·rw [ha]
  have e1 : (2 ^ F.fr + F.fc w) * 2 ^ (F.ex w - 1) < 2 ^ (F.fr + 1) * 2 ^ (F.ex w - 1):=Nat.mul_lt_mul_of_pos_right (by rw [Nat.pow_succ]; omega) (Nat.two_pow_pos _)
  rw [← Nat.pow_add] at e1
  exact Nat.lt_of_lt_of_le e1 (Nat.pow_le_pow_right (by decide) (by unfold Fm.hi; omega))
 ·rw [ha]
  have e1 : 2 ^ F.fr * 2 ^ (F.ex w - 1)≤(2 ^ F.fr + F.fc w) * 2 ^ (F.ex w - 1):=Nat.mul_le_mul_right _ (Nat.le_add_right _ _)
  rw [← Nat.pow_add] at e1
  exact Nat.le_trans (Nat.pow_le_pow_right (by decide) (by unfold Fm.lo; omega)) e1
 ·rw [hv]; exact Zdd (by omega)
theorem Rn.dvd {p i : Nat} {n r : Int} (h : Rn p n r) (hi : P2 i ∣ n) : P2 i ∣ r:=by
 by_cases hk : bl n - p≤i
 ·rw [h.exact hi hk]; exact hi
 ·exact Int.dvd_trans (Zoc (by omega)) h.2.1
theorem ZHr {k : Nat} {n : Int} (h : 2 ^ k≤n.natAbs) : k + 1≤bl n:=by
 have : k < blen n.natAbs:=Zbe.2 h
 exact this
theorem ZHl {U : Nat} {n r : Int} (hU : 2≤U) (h : Rl U n r) : n.natAbs≤2 * r.natAbs:=by
 unfold Rl at h
 have : 2 * (n - r).natAbs≤U * (n - r).natAbs:=Nat.mul_le_mul_right _ hU
 omega
def Fm.pl (F : Fm) : Nat:=2 * F.lo - F.sh
def Fm.pj (F : Fm) : Nat:=F.pl - F.fr
def Fm.ph (F : Fm) : Nat:=2 * F.hi - F.sh + 1
theorem Ztv (F : Fm) : F.sh≤2 * F.lo∧F.low≤(F.wlo - 1 + F.low) + (F.wlo - 1 + F.low)∧F.low + F.low + (2 * F.hi : Nat) < F.wide∧F.fr≤F.pl∧F.low + (F.ph + 5 : Nat) < F.wide∧F.low + F.fr + 1≤(F.pj : Int) + 1 - (F.ph + 2 : Nat)∧((F.ph + 2 : Nat) : Int) - ((F.pl - 2 : Nat) : Int) < F.wide∧(F.sh : Int) = -F.low∧F.pl≤F.ph∧2≤F.pl:=by cases F <;> decide
theorem ZfU {F : Fm} {a b : Nat} (ha : a < 2 * F.sg) (hb : b < 2 * F.sg) (wa : inW F a) (wb : inW F b) :
  Fb F (mulW2 F 1 a b).1 F.ph∧Rl (F1 F) (F.X a * F.X b) (F.X (mulW2 F 1 a b).1 * (2 ^ F.sh : Nat))∧2 ^ F.pl≤2 * (F.X (mulW2 F 1 a b).1).natAbs∧P2 F.pj ∣ F.X (mulW2 F 1 a b).1:=by
 obtain ⟨fa,la,ea⟩:=Zlu ha wa
 obtain ⟨fb,lb,eb⟩:=Zlu hb wb
 obtain ⟨n1,n2,n3,n4,_⟩:=Ztv F
 obtain ⟨h1,h2⟩:=ZGj F fa fb ea eb n2 n3
 have hlo : 2 ^ F.pl * 2 ^ F.sh≤(F.X a * F.X b).natAbs:=by
  rw [← Nat.pow_add,Int.natAbs_mul,show F.pl + F.sh = F.lo + F.lo by unfold Fm.pl; omega,Nat.pow_add]
  exact Nat.mul_le_mul la lb
 have h3:=ZHl (Nat.le_trans (by decide) (ZDa F)) h2
 refine ⟨h1,h2,?_,?_⟩
 ·rw [Int.natAbs_mul (F.X (mulW2 F 1 a b).1),Int.natAbs_natCast,← Nat.mul_assoc] at h3
  exact Nat.le_of_mul_le_mul_right (Nat.le_trans hlo h3) (Nat.two_pow_pos _)
 ·-- its last place
  obtain ⟨i0,l0⟩:=Zcj (ZbK fa.fin) (ZbK fb.fin)
  have l1 : LoE (mulD (F.vl a) (F.vl b)) F.low:=(Zcj ea eb).2.mono n2
  have hF:=ZaU F
  have hsh : (F.sh : Int) = -F.low:=by unfold Fm.sh; omega
  have hsc:=ZnG (L':=F.low + F.low) l1 (by omega)
  rw [i0,show (F.low - (F.low + F.low)).toNat = F.sh by omega] at hsc
  change F.X a * F.X b = _ at hsc
  have hlt : (iv (mulD (F.vl a) (F.vl b)) F.low).natAbs < 2 ^ (2 * F.hi - F.sh):=by
   have hm : (F.X a * F.X b).natAbs < 2 ^ (2 * F.hi):=by
    rw [Int.natAbs_mul,show 2 * F.hi = F.hi + F.hi by omega,Nat.pow_add]
    exact Nat.mul_lt_mul'' fa.hi fb.hi
   rw [hsc,Int.natAbs_mul,Int.natAbs_natCast,show 2 * F.hi = (2 * F.hi - F.sh) + F.sh by
                                                have : F.lo≤F.hi:=by cases F <;> decide
                                                omega,Nat.pow_add] at hm
   exact Nat.lt_of_mul_lt_mul_right hm
  have ne : ¬ (F.cls a = 1∨F.cls b = 1):=by
   intro q
   have : F.X a * F.X b = 0:=by
    rcases q with q | q
    ·rw [Znp ha q,Int.zero_mul]
    ·rw [Znp hb q,Int.mul_zero]
   rw [this] at hlo
   have:=Nat.mul_pos (Nat.two_pow_pos F.pl) (Nat.two_pow_pos F.sh)
   simp only [Int.natAbs_zero] at hlo
   omega
  have e : mulW2 F 1 a b = sumW F 1 (mulD (F.vl a) (F.vl b)):=by unfold mulW2; rw [ZnL F 1 (Zas.1 fa.fin) (Zas.1 fb.fin),if_neg ne]
  rw [e]
  obtain ⟨_,_,r3⟩:=ZvH F l1 (Zlk F l1 hlt (by have:=n3; omega))
  have hb:=ZHr (k:=F.pl) (n:=iv (mulD (F.vl a) (F.vl b)) F.low) (by
   rw [hsc,Int.natAbs_mul,Int.natAbs_natCast] at hlo
   exact Nat.le_of_mul_le_mul_right hlo (Nat.two_pow_pos _))
  exact Int.dvd_trans (Zoc (by unfold Fm.pj; omega)) r3.2.1
theorem fin5 {F : Fm} {w : Nat} (h : F.fin w) : F.cls w≠5:=(Znt h).1
theorem Zuh {F : Fm} {a b : Nat} (ha : a < 2 * F.sg) (hb : b < 2 * F.sg) (h : F.fin (mulW2 F 1 a b).1) : evFl .mul (fk F) (flA F a) (flA F b) = some (flA F (mulW2 F 1 a b).1):=by
 unfold flA; rw [ZFA,ZGk F ha hb,Zit (fin5 h)]
theorem ZFs {F : Fm} {a b : Nat} (ha : a < 2 * F.sg) (hb : b < 2 * F.sg) (h : F.fin (addW F 1 a b).1) : evFl .add (fk F) (flA F a) (flA F b) = some (flA F (addW F 1 a b).1):=by
 unfold flA; rw [ZFz,ZEN F ha hb,Zit (fin5 h)]
theorem ZFt {F : Fm} {a b : Nat} (ha : a < 2 * F.sg) (hb : b < 2 * F.sg) (h : F.fin (subW F 1 a b).1) : evFl .sub (fk F) (flA F a) (flA F b) = some (flA F (subW F 1 a b).1):=by
 unfold flA; rw [ZFB,ZGW F ha hb,Zit (fin5 h)]
theorem Zwg (hM : HasM g T) (F : Fm) {a b c d p q r s x y : Nat}
  (h1 : evFl .mul (fk F) (flA F a) (flA F c) = some (flA F p)) (h2 : evFl .mul (fk F) (flA F b) (flA F d) = some (flA F q)) (h3 : evFl .sub (fk F) (flA F p) (flA F q) = some (flA F x))
  (h4 : evFl .mul (fk F) (flA F a) (flA F d) = some (flA F r)) (h5 : evFl .mul (fk F) (flA F b) (flA F c) = some (flA F s)) (h6 : evFl .add (fk F) (flA F r) (flA F s) = some (flA F y)) :
  run G T (fsel F 361 362) [flA F a,flA F b,flA F c,flA F d] = some (.tup [flA F x,flA F y]):=by
 cases F
 ·simp only [fsel,flA,fk] at *
  rw [Zab G T hM.fast_mul_float32]
  repeat' (first|simp (maxSteps:=9^7) only [seval,exC,Zcv,fcB,h1,h2,h3,h4,h5,h6]|simp (maxSteps:=9^7) (disch:=first|with_reducible assumption|omega) only [dxB]|(simp only [kdB];split)|(simp only [kvB];split))
 ·simp only [fsel,flA,fk] at *
  rw [Zab G T hM.fast_mul_float64]
  repeat' (first|simp (maxSteps:=9^7) only [seval,exC,Zcw,fcB,h1,h2,h3,h4,h5,h6]|simp (maxSteps:=9^7) (disch:=first|with_reducible assumption|omega) only [dxB]|(simp only [kdB];split)|(simp only [kvB];split))
def fmX (F : Fm) (a b c d : Nat) : Nat:=(subW F 1 (mulW2 F 1 a c).1 (mulW2 F 1 b d).1).1
def fmY (F : Fm) (a b c d : Nat) : Nat:=(addW F 1 (mulW2 F 1 a d).1 (mulW2 F 1 b c).1).1
theorem Ztu {F : Fm} {p q : Nat} (hp : Fb F p F.ph) (hq : Fb F q F.ph) (dp : P2 F.pj ∣ F.X p) (dq : P2 F.pj ∣ F.X q) :
  Fb F (addW F 1 p q).1 (F.ph + 2)∧Rl (F1 F) (F.X p + F.X q) (F.X (addW F 1 p q).1)∧P2 F.pj ∣ F.X (addW F 1 p q).1:=by
 obtain ⟨_,_,_,_,n5,_⟩:=Ztv F
 obtain ⟨h1,h2⟩:=ZEM F hp hq (by omega)
 refine ⟨h1,h2,?_⟩
 have hv : (addW F 1 p q).2≠20:=by
  unfold addW
  rw [ZiN F 1 (Zas.1 hp.fin) (Zas.1 hq.fin)]
  by_cases z : F.cls p = 1∧F.cls q = 1∧F.ng p = F.ng q
  ·rw [if_pos z]; exact (by decide : (0 : Nat)≠20)
  ·rw [if_neg z]
   obtain ⟨i1,i2⟩:=ZdR (ZbK hp.fin) (ZbK hq.fin)
   refine Zlk F i2 (k:=F.ph + 1) (by rw [i1]; have:=hp.hi; have:=hq.hi; unfold Fm.X at *; rw [Nat.pow_succ]; omega) (by omega)
 exact (ZwK F hp.lt hq.lt hp.fin hq.fin hv).2.2.dvd (Int.dvd_add dp dq)
theorem Ztw {F : Fm} {p q : Nat} (hp : Fb F p F.ph) (hq : Fb F q F.ph) (dp : P2 F.pj ∣ F.X p) (dq : P2 F.pj ∣ F.X q) :
  Fb F (subW F 1 p q).1 (F.ph + 2)∧Rl (F1 F) (F.X p - F.X q) (F.X (subW F 1 p q).1)∧P2 F.pj ∣ F.X (subW F 1 p q).1:=by
 obtain ⟨_,_,_,_,n5,_⟩:=Ztv F
 obtain ⟨h1,h2⟩:=ZGV F hp hq (by omega)
 refine ⟨h1,h2,?_⟩
 have hv : (subW F 1 p q).2≠20:=by
  unfold subW
  rw [ZiN F 1 (Zas.1 hp.fin) (Zas.1 hq.fin)]
  by_cases z : F.cls p = 1∧F.cls q = 1∧F.ng p = !F.ng q
  ·rw [if_pos z]; exact (by decide : (0 : Nat)≠20)
  ·rw [if_neg z]
   obtain ⟨i1,i2⟩:=Zmk (ZbK hp.fin) (ZbK hq.fin)
   refine Zlk F i2 (k:=F.ph + 1) (by rw [show addD (F.vl p) (negD (F.vl q)) = subD (F.vl p) (F.vl q) from rfl,i1]; have:=hp.hi; have:=hq.hi; unfold Fm.X at *; rw [Nat.pow_succ]; omega) (by omega)
 exact (Zzs F hp.lt hq.lt hp.fin hq.fin hv).2.2.dvd (Int.dvd_sub dp dq)
theorem iav0 (b : Nat) : iaddrAV 2 4 (.ptr b 0) (.int .i64 0) = some (.ptr b 0):=rfl
theorem iav1 (b : Nat) : iaddrAV 2 4 (.ptr b 0) (.int .i64 1) = some (.ptr b 4):=rfl
def sqs (a b : Dy) : Dy:=addD (mulD a a) (mulD b b)
theorem Zgq (J : Al G T g) (hM : HasM g T) {z y : Bool} {a b : Dy} (ha : Bd a 1000000) (hb : Bd b 1000000) : ∃ z',run G T 390 [DyA z a,DyA y b] = some (DyA z' (sqs a b)):=by
 rw [Zab G T hM.Zgq]
 obtain ⟨y1,m1⟩:=Zlf J (z:=z) (y:=z) ha ha
 obtain ⟨y2,m2⟩:=Zlf J (z:=y) (y:=y) hb hb
 obtain ⟨y3,s1⟩:=ZcJ J (z:=y1) (y:=y2) ((ZcA ha ha).mono (by decide)) ((ZcA hb hb).mono (by decide))
 refine ⟨y3,?_⟩
 unfold sqs
 generalize addD (mulD a a) (mulD b b) = s at *
 generalize mulD a a = aa at *
 generalize mulD b b = bb at *
 simp only [DyA,A3] at *
 repeat' (first|simp (maxSteps:=9^7) only [seval,exC,Zer,m1,m2,s1]|simp (maxSteps:=9^7) (disch:=first|with_reducible assumption|omega) only [dxB]|(simp only [kdB];split)|(simp only [kvB];split))
def farD (F : Fm) (r : Nat) (re den : Dy) : Dy:=subD (mulD (F.vl r) den) re
theorem Zqd {F : Fm} {r : Nat} {re den : Dy} (hr : Bd re 40000) (hd : Bd den 40000) : Bd (farD F r re den) 1000000 :=
 (ZwA ((ZcA ((Zdh F r).mono (by decide)) hd).mono (show 4 * 40000≤160000 by decide)) (hr.mono (show 40000≤160000 by decide))).mono (by decide)
set_option maxHeartbeats 4000000 in
theorem Zpc (J : Al G T g) (hM : HasM g T) (F : Fm) {x y : Nat} {z1 z2 z3 : Bool} {re im den : Dy} (hx : x < 2 * F.sg) (hy : y < 2 * F.sg) (fx : F.fin x) (fy : F.fin y) (br : Bd re 40000) (bi : Bd im 40000) (bd : Bd den 40000) :
  ∃ u v,run G T 365 [.int .u8 F.u,zA x y,DyA z1 re,DyA z2 im,DyA z3 den] = some (.tup [DyA u (shD (sqs (farD F x re den) (farD F y im den)) (2 * ((F.fr : Int) + 1))),DyA v (sqs re im)]):=by
 rw [Zab G T hM.Zpc]
 obtain ⟨u1,v1⟩:=ZbJ J F (Zbx hx) fx
 obtain ⟨u2,v2⟩:=ZbJ J F (Zbx hy) fy
 rw [← ZbY fx] at v1
 rw [← ZbY fy] at v2
 obtain ⟨w1,m1⟩:=Zlf J (z:=u1) (y:=z3) (a:=F.vl x) (b:=den) ((Zdh F x).mono (by decide)) (bd.mono (by decide))
 obtain ⟨w2,m2⟩:=Zlf J (z:=u2) (y:=z3) (a:=F.vl y) (b:=den) ((Zdh F y).mono (by decide)) (bd.mono (by decide))
 have bm1 : Bd (mulD (F.vl x) den) 34359738368:=(ZcA ((Zdh F x).mono (by decide)) bd).mono (by decide)
 have bm2 : Bd (mulD (F.vl y) den) 34359738368:=(ZcA ((Zdh F y).mono (by decide)) bd).mono (by decide)
 obtain ⟨w3,s1⟩:=ZfL J (z:=w1) (y:=z1) bm1 (br.mono (by decide))
 obtain ⟨w4,s2⟩:=ZfL J (z:=w2) (y:=z2) bm2 (bi.mono (by decide))
 have b1:=Zqd (F:=F) (r:=x) br bd
 have b2:=Zqd (F:=F) (r:=y) bi bd
 obtain ⟨w5,q1⟩:=Zgq J hM (z:=w3) (y:=w4) b1 b2
 obtain ⟨w6,q2⟩:=Zgq J hM (z:=z1) (y:=z2) (br.mono (by decide)) (bi.mono (by decide))
 have bs : Bd (sqs (farD F x re den) (farD F y im den)) 20000000:=(Zfz (ZcA b1 b1) (ZcA b2 b2)).mono (by decide)
 have fr:=ZcX J F
 have hF:=ZaU F
 have sh:=ZdH J (z:=w5) (d:=sqs (farD F x re den) (farD F y im den)) (k:=2 * ((F.fr : Int) + 1)) (by omega) (by have:=bs.lo; have:=bs.hi; omega)
 refine ⟨w5,w6,?_⟩
 have e1 : IntKind.i64.wrap ((F.fr : Int) + 1) = (F.fr : Int) + 1:=Zae (by omega)
 have e2 : IntKind.i64.wrap (2 * ((F.fr : Int) + 1)) = 2 * ((F.fr : Int) + 1):=Zae (by omega)
 clear hF bs bm1 bm2 b1 b2 br bi bd
 unfold farD at *
 generalize shD (sqs (subD (mulD (F.vl x) den) re) (subD (mulD (F.vl y) den) im)) (2 * ((F.fr : Int) + 1)) = S at *
 generalize sqs (subD (mulD (F.vl x) den) re) (subD (mulD (F.vl y) den) im) = S0 at *
 generalize subD (mulD (F.vl x) den) re = d1 at *
 generalize subD (mulD (F.vl y) den) im = d2 at *
 generalize mulD (F.vl x) den = p1 at *
 generalize mulD (F.vl y) den = p2 at *
 generalize F.vl x = a at *
 generalize F.vl y = b at *
 generalize sqs re im = S1 at *
 generalize (F.fr : Int) = k at *
 simp only [zA,DyA,A3] at *
 repeat' (first|simp (maxSteps:=9^7) only [seval,exC,Zjq,v1,v2,m1,m2,s1,s2,q1,q2,fr,e1,e2,sh]|simp (maxSteps:=9^7) (disch:=first|with_reducible assumption|omega) only [dxB]|(simp only [kdB];split)|(simp only [kvB];split))
theorem ZkE (J : Al G T g) (hM : HasM g T) (F : Fm) {x y k : Nat} {z1 z2 z3 : Bool} {re im den : Dy} (hx : x < 2 * F.sg) (hy : y < 2 * F.sg) (fx : F.fin x) (fy : F.fin y) (br : Bd re 40000) (bi : Bd im 40000) (bd : Bd den 40000) (hk : k≤41) :
  run G T 334 [.int .u8 F.u,zA x y,DyA z1 re,DyA z2 im,DyA z3 den,.int .i64 (k : Int)] = some (.bool (decide (cmpD (shD (sqs (farD F x re den) (farD F y im den)) (2 * ((F.fr : Int) + 1))) (mulD (mulD (intD (k : Int)) (intD (k : Int))) (sqs re im))≤0))):=by
 rw [Zab G T hM.ZkE]
 obtain ⟨u,v,f1⟩:=Zpc J hM F (z1:=z1) (z2:=z2) (z3:=z3) hx hy fx fy br bi bd
 obtain ⟨u1,i1⟩:=Zku J (n:=(k : Int)) (by omega) (by omega)
 have bk:=ZBd hk
 have bs2 : Bd (sqs re im) 1000000:=(Zfz (ZcA br br) (ZcA bi bi)).mono (by decide)
 obtain ⟨u2,m1⟩:=Zlf J (z:=u1) (y:=u1) (a:=intD (k : Int)) (b:=intD (k : Int)) (bk.mono (by decide)) (bk.mono (by decide))
 have bkk : Bd (mulD (intD (k : Int)) (intD (k : Int))) 1000000:=(ZcA bk bk).mono (by decide)
 obtain ⟨u3,m2⟩:=Zlf J (z:=u2) (y:=v) bkk bs2
 have b1:=Zqd (F:=F) (r:=x) br bd
 have b2:=Zqd (F:=F) (r:=y) bi bd
 have bs : Bd (sqs (farD F x re den) (farD F y im den)) 20000000:=(Zfz (ZcA b1 b1) (ZcA b2 b2)).mono (by decide)
 have hF:=ZaU F
 have bsh : Bd (shD (sqs (farD F x re den) (farD F y im den)) (2 * ((F.fr : Int) + 1))) 34359738368:=(Zwz bs (L:=200) (k:=2 * ((F.fr : Int) + 1)) (by omega)).mono (by decide)
 have c1:=Zmw J (z:=u) (y:=u3) bsh ((ZcA bkk bs2).mono (by decide))
 clear hF bs bsh b1 b2 bkk bs2 bk br bi bd
 generalize shD (sqs (farD F x re den) (farD F y im den)) (2 * ((F.fr : Int) + 1)) = S at *
 generalize mulD (mulD (intD (k : Int)) (intD (k : Int))) (sqs re im) = R at *
 generalize mulD (intD (k : Int)) (intD (k : Int)) = R1 at *
 generalize sqs re im = R2 at *
 generalize intD (k : Int) = d at *
 generalize (k : Int) = m at *
 generalize cmpD S R = c at *
 simp only [zA,DyA,A3] at *
 by_cases hc : c≤0
 ·rw [decide_eq_true hc]
  repeat' (first|simp (maxSteps:=9^7) only [seval,exC,Zdo,f1,i1,m1,m2,c1,hc]|simp (maxSteps:=9^7) (disch:=first|with_reducible assumption|omega) only [dxB]|(simp only [kdB];split)|(simp only [kvB];split))
 ·rw [decide_eq_false hc]
  repeat' (first|simp (maxSteps:=9^7) only [seval,exC,Zdo,f1,i1,m1,m2,c1,hc]|simp (maxSteps:=9^7) (disch:=first|with_reducible assumption|omega) only [dxB]|(simp only [kdB];split)|(simp only [kvB];split))
set_option maxHeartbeats 4000000 in
theorem ZjM (J : Al G T g) (hM : HasM g T) (F : Fm) {a b c d : Nat} (ha : a < 2 * F.sg) (hb : b < 2 * F.sg) (hc : c < 2 * F.sg) (hd : d < 2 * F.sg) (fa : F.fin a) (fb : F.fin b) (fc : F.fin c) (fd : F.fin d) :
  ∃ u v,run G T 333 [.int .u8 F.u,zA a b,zA c d] = some (.tup [DyA u (addD (tm F a c false).1 (tm F b d true).1),DyA v (addD (tm F a d false).1 (tm F b c false).1)]):=by
 rw [Zab G T hM.ZjM]
 obtain ⟨z,y,u,v,p1⟩:=Zgo J F ha hb hc hd fa fb fc fd
 obtain ⟨w1,s1⟩:=ZcJ J (z:=z) (y:=y) ((ZgW F a c false).1.mono (by decide)) ((ZgW F b d true).1.mono (by decide))
 obtain ⟨w2,s2⟩:=ZcJ J (z:=u) (y:=v) ((ZgW F a d false).1.mono (by decide)) ((ZgW F b c false).1.mono (by decide))
 refine ⟨w1,w2,?_⟩
 generalize addD (tm F a c false).1 (tm F b d true).1 = A at *
 generalize addD (tm F a d false).1 (tm F b c false).1 = B at *
 generalize tm F a c false = t1 at *
 generalize tm F b d true = t2 at *
 generalize tm F a d false = t3 at *
 generalize tm F b c false = t4 at *
 simp only [zA,DyA,A3,gaussA] at *
 repeat' (first|simp (maxSteps:=9^7) only [seval,exC,Zeq,iav0,iav1,p1,s1,s2]|simp (maxSteps:=9^7) (disch:=first|with_reducible assumption|omega) only [dxB]|(simp only [kdB];split)|(simp only [kvB];split))
theorem Rl.scale {U : Nat} {n r : Int} (h : Rl U n r) (S : Int) : Rl U (n * S) (r * S):=by
 unfold Rl at *
 rw [← Int.sub_mul,Int.natAbs_mul,Int.natAbs_mul,← Nat.mul_assoc]
 exact Nat.mul_le_mul_right _ h
theorem Rl.neg {U : Nat} {n r : Int} (h : Rl U n r) : Rl U (-n) (-r):=by
 unfold Rl at *
 rw [show -n - -r = -(n - r) by omega,Int.natAbs_neg,Int.natAbs_neg]; exact h
theorem sum3 {U : Nat} (hU : 8≤U) {ac bd ps qs xs : Int} (h1 : Rl U ac ps) (h2 : Rl U bd qs) (h3 : Rl U (ps + qs) xs) : 8 * (U * (xs - (ac + bd)).natAbs)≤17 * (ac.natAbs + bd.natAbs):=by
 unfold Rl at *
 have t1 : (xs - (ac + bd)).natAbs≤(ps + qs - xs).natAbs + (ac - ps).natAbs + (bd - qs).natAbs:=by omega
 have t2:=Nat.mul_le_mul_left U t1
 rw [Nat.mul_add,Nat.mul_add] at t2
 have a1 : 8 * (ac - ps).natAbs≤U * (ac - ps).natAbs:=Nat.mul_le_mul_right _ hU
 have a2 : 8 * (bd - qs).natAbs≤U * (bd - qs).natAbs:=Nat.mul_le_mul_right _ hU
 omega
theorem sq4 {p q : Int} : 4 * (p.natAbs * q.natAbs)≤2 * (p * p + q * q).natAbs:=by
 have h:=ZlJ ((p.natAbs : Int) - (q.natAbs : Int))
 have h1 : ((p.natAbs : Int) - (q.natAbs : Int)) * ((p.natAbs : Int) - (q.natAbs : Int)) = (p.natAbs : Int) * p.natAbs - 2 * ((p.natAbs : Int) * q.natAbs) + (q.natAbs : Int) * q.natAbs:=by
  rw [Int.sub_mul,Int.mul_sub,Int.mul_sub,Int.mul_comm (q.natAbs : Int) (p.natAbs : Int)]; omega
 rw [h1,← Int.natCast_mul,← Int.natCast_mul,← Int.natCast_mul,Int.natAbs_mul_self,Int.natAbs_mul_self] at h
 have:=ZlJ p
 have:=ZlJ q
 omega
theorem ZzD (A B C D : Int) : ((A * C).natAbs + (B * D).natAbs) * ((A * C).natAbs + (B * D).natAbs) + ((A * D).natAbs + (B * C).natAbs) * ((A * D).natAbs + (B * C).natAbs)≤2 * ((A * A + B * B) * (C * C + D * D)).natAbs:=by
 have e : ((A * A + B * B) * (C * C + D * D)).natAbs = (A * C).natAbs * (A * C).natAbs + (B * D).natAbs * (B * D).natAbs + (A * D).natAbs * (A * D).natAbs + (B * C).natAbs * (B * C).natAbs:=by
  have e1 : (A * A + B * B) * (C * C + D * D) = (A * C) * (A * C) + (B * D) * (B * D) + (A * D) * (A * D) + (B * C) * (B * C):=by
   rw [Int.add_mul,Int.mul_add,Int.mul_add]
   have f1 : A * A * (C * C) = A * C * (A * C):=by simp only [Int.mul_assoc,Int.mul_left_comm]
   have f2 : A * A * (D * D) = A * D * (A * D):=by simp only [Int.mul_assoc,Int.mul_left_comm]
   have f3 : B * B * (C * C) = B * C * (B * C):=by simp only [Int.mul_assoc,Int.mul_left_comm]
   have f4 : B * B * (D * D) = B * D * (B * D):=by simp only [Int.mul_assoc,Int.mul_left_comm]
   rw [f1,f2,f3,f4]; omega
  rw [e1,← Int.natAbs_mul_self (a:=A * C),← Int.natAbs_mul_self (a:=B * D),← Int.natAbs_mul_self (a:=A * D),← Int.natAbs_mul_self (a:=B * C)]
  omega
 have c1:=sq4 (p:=((A * C).natAbs : Int)) (q:=((B * D).natAbs : Int))
 have c2:=sq4 (p:=((A * D).natAbs : Int)) (q:=((B * C).natAbs : Int))
 simp only [Int.natAbs_natCast] at c1 c2
 have d1 : ((((A * C).natAbs : Int) * ((A * C).natAbs : Int) + ((B * D).natAbs : Int) * ((B * D).natAbs : Int))).natAbs = (A * C).natAbs * (A * C).natAbs + (B * D).natAbs * (B * D).natAbs:=by
  rw [← Int.natCast_mul,← Int.natCast_mul]; omega
 have d2 : ((((A * D).natAbs : Int) * ((A * D).natAbs : Int) + ((B * C).natAbs : Int) * ((B * C).natAbs : Int))).natAbs = (A * D).natAbs * (A * D).natAbs + (B * C).natAbs * (B * C).natAbs:=by
  rw [← Int.natCast_mul,← Int.natCast_mul]; omega
 rw [d1] at c1
 rw [d2] at c2
 rw [e]
 generalize (A * C).natAbs = p at *
 generalize (B * D).natAbs = q at *
 generalize (A * D).natAbs = r at *
 generalize (B * C).natAbs = s at *
 have g1 : (p + q) * (p + q) = p * p + q * q + 2 * (p * q):=by rw [Nat.add_mul,Nat.mul_add,Nat.mul_add,Nat.mul_comm q p]; omega
 have g2 : (r + s) * (r + s) = r * r + s * s + 2 * (r * s):=by rw [Nat.add_mul,Nat.mul_add,Nat.mul_add,Nat.mul_comm s r]; omega
 rw [g1,g2]
 omega
theorem Zwn {U e1 e2 M1 M2 N k s t : Nat} (h1 : s * (U * e1)≤t * M1) (h2 : s * (U * e2)≤t * M2) (hN : M1 * M1 + M2 * M2≤2 * N) (hk : 2 * (t * t)≤k * (s * s)) (hs : 0 < s) : U * U * (e1 * e1 + e2 * e2)≤k * N:=by
 have a1:=Nat.mul_le_mul h1 h1
 have a2:=Nat.mul_le_mul h2 h2
 have f1 : s * (U * e1) * (s * (U * e1)) = s * s * (U * U * (e1 * e1)):=by simp only [Nat.mul_assoc,Nat.mul_left_comm]
 have f2 : s * (U * e2) * (s * (U * e2)) = s * s * (U * U * (e2 * e2)):=by simp only [Nat.mul_assoc,Nat.mul_left_comm]
 have f3 : t * M1 * (t * M1) = t * t * (M1 * M1):=by simp only [Nat.mul_assoc,Nat.mul_left_comm]
 have f4 : t * M2 * (t * M2) = t * t * (M2 * M2):=by simp only [Nat.mul_assoc,Nat.mul_left_comm]
 rw [f1,f3] at a1
 rw [f2,f4] at a2
 have b1 : s * s * (U * U * (e1 * e1 + e2 * e2))≤t * t * (M1 * M1 + M2 * M2):=by rw [Nat.mul_add (U * U),Nat.mul_add (s * s),Nat.mul_add (t * t)]; exact Nat.add_le_add a1 a2
 have b2 : t * t * (M1 * M1 + M2 * M2)≤t * t * (2 * N):=Nat.mul_le_mul_left _ hN
 have b3 : t * t * (2 * N) = 2 * (t * t) * N:=by rw [← Nat.mul_assoc,Nat.mul_comm (t * t) 2]
 have b4 : 2 * (t * t) * N≤k * (s * s) * N:=Nat.mul_le_mul_right _ hk
 have b5 : k * (s * s) * N = s * s * (k * N):=by rw [Nat.mul_comm k,Nat.mul_assoc]
 exact Nat.le_of_mul_le_mul_left (by omega : s * s * (U * U * (e1 * e1 + e2 * e2))≤s * s * (k * N)) (Nat.mul_pos hs hs)
theorem ZAE (A B C D : Int) : (A * C - B * D) * (A * C - B * D) + (A * D + B * C) * (A * D + B * C) = (A * A + B * B) * (C * C + D * D):=by
 have h:=(show ∀ p q r s m n : Int,m = p * q→n = r * s→p * q = r * s→True from fun _ _ _ _ _ _ _ _ _ => trivial)
 simp only [Int.sub_mul,Int.mul_sub,Int.add_mul,Int.mul_add]
 have f1 : A * C * (A * C) = A * A * (C * C):=by simp only [Int.mul_assoc,Int.mul_left_comm]
 have f2 : A * D * (A * D) = A * A * (D * D):=by simp only [Int.mul_assoc,Int.mul_left_comm]
 have f3 : B * C * (B * C) = B * B * (C * C):=by simp only [Int.mul_assoc,Int.mul_left_comm]
 have f4 : B * D * (B * D) = B * B * (D * D):=by simp only [Int.mul_assoc,Int.mul_left_comm]
 have f5 : B * D * (A * C) = A * C * (B * D):=Int.mul_comm ..
 have f6 : B * C * (A * D) = A * D * (B * C):=Int.mul_comm ..
 have f7 : A * D * (B * C) = A * C * (B * D):=by simp only [Int.mul_assoc,Int.mul_left_comm,Int.mul_comm]
 rw [f1,f2,f3,f4,f5,f6,f7]
 omega
end Go.Cv
namespace Go.Cv
variable {G : Nat→Option (List AV)} {T : Tbl} {g : Nat}
theorem ZFK (d : Dy) (k L : Int) : iv (shD d k) L = iv d (L - k):=by
 unfold shD
 by_cases h : d.m = 0
 ·rw [ZaP h,ZaP]
  split
  ·rename_i q; first | rfl | exact h
  ·exact h
 ·first
  | rw [if_neg h]; unfold iv; simp only; congr 4; omega
  | (unfold iv; simp only; congr 4; omega)
theorem ZDb {d : Dy} {k L : Int} (h : LoE d (L - k)) : LoE (shD d k) L:=by
 rcases h with h | h
 ·left; unfold shD; split <;> first | rfl | exact h
 ·unfold shD
  split
  ·exact Or.inl (by first | rfl | assumption)
  ·right; simp only; omega
theorem ZxZ (k : Nat) {L : Int} (h : L≤0) : iv (intD (k : Int)) L = ((k * 2 ^ (-L).toNat : Nat) : Int)∧LoE (intD (k : Int)) L:=by
 rw [ZqC]
 refine ⟨?_,Zdd h⟩
 rw [Zia h,show (0 - L) = -L by omega]; simp
theorem within (F : Fm) {x y k : Nat} {re im den : Dy} {Kd : Int} (fx : F.fin x) (fy : F.fin y) (hd : LoE den Kd) (hre : LoE re (F.low + Kd)) (him : LoE im (F.low + Kd))
  (h : F1 F * F1 F * ((F.X x * iv den Kd - iv re (F.low + Kd)).natAbs * (F.X x * iv den Kd - iv re (F.low + Kd)).natAbs + (F.X y * iv den Kd - iv im (F.low + Kd)).natAbs * (F.X y * iv den Kd - iv im (F.low + Kd)).natAbs)≤k * k * (iv re (F.low + Kd) * iv re (F.low + Kd) + iv im (F.low + Kd) * iv im (F.low + Kd)).natAbs) :
  cmpD (shD (sqs (farD F x re den) (farD F y im den)) (2 * ((F.fr : Int) + 1))) (mulD (mulD (intD (k : Int)) (intD (k : Int))) (sqs re im))≤0:=by
 obtain ⟨K,hK⟩ : ∃ K,K = F.low + Kd:=⟨_,rfl⟩
 rw [← hK] at h hre him
 obtain ⟨m1,n1⟩:=Zcj (ZbK fx) hd
 obtain ⟨m2,n2⟩:=Zcj (ZbK fy) hd
 rw [← hK] at m1 n1 m2 n2
 obtain ⟨s1,t1⟩:=Zmk n1 hre
 obtain ⟨s2,t2⟩:=Zmk n2 him
 obtain ⟨q1,r1⟩:=Zcj t1 t1
 obtain ⟨q2,r2⟩:=Zcj t2 t2
 obtain ⟨a1,a2⟩:=ZdR r1 r2
 obtain ⟨q3,r3⟩:=Zcj hre hre
 obtain ⟨q4,r4⟩:=Zcj him him
 obtain ⟨a3,a4⟩:=ZdR r3 r4
 obtain ⟨i1,j1⟩:=ZxZ k (Int.le_refl 0)
 obtain ⟨i2,j2⟩:=Zcj j1 j1
 obtain ⟨i3,j3⟩:=Zcj j2 a4
 have hsc:=ZnG (L':=K + K - 2 * ((F.fr : Int) + 1)) a2 (by omega)
 have e1:=ZFK (sqs (farD F x re den) (farD F y im den)) (2 * ((F.fr : Int) + 1)) (K + K)
 have e2 : LoE (shD (sqs (farD F x re den) (farD F y im den)) (2 * ((F.fr : Int) + 1))) (K + K):=ZDb (a2.mono (by omega))
 rw [show (0 : Int) + 0 + (K + K) = K + K by omega] at i3 j3
 change LoE (mulD (mulD (intD (k : Int)) (intD (k : Int))) (sqs re im)) (K + K) at j3
 rw [Zns e2 j3,e1]
 change iv (mulD (mulD (intD (k : Int)) (intD (k : Int))) (sqs re im)) (K + K) = _ at i3
 rw [i3]
 change iv (sqs (farD F x re den) (farD F y im den)) _ = _ * _ at hsc
 rw [hsc,a1,q1,q2,a3,q3,q4]
 change iv (subD (mulD (F.vl x) den) re) K = _ at s1
 change iv (subD (mulD (F.vl y) den) im) K = _ at s2
 rw [s1,s2,m1,m2,i2,i1]
 have w1 : (K + K - (K + K - 2 * ((F.fr : Int) + 1))).toNat = (F.fr + 1) + (F.fr + 1):=by omega
 rw [w1,Nat.pow_add]
 change F1 F * F1 F * _≤_ at h
 have w2 : (2 : Nat) ^ (F.fr + 1) = F1 F:=rfl
 rw [w2]
 have w3 : k * 2 ^ (-(0 : Int)).toNat = k:=by simp
 rw [w3]
 show sgI (((iv (F.vl x) F.low * iv den Kd - iv re K) * (iv (F.vl x) F.low * iv den Kd - iv re K) + (iv (F.vl y) F.low * iv den Kd - iv im K) * (iv (F.vl y) F.low * iv den Kd - iv im K)) * ((F1 F * F1 F : Nat) : Int) - (k : Int) * k * (iv re K * iv re K + iv im K * iv im K))≤0
 change F1 F * F1 F * ((iv (F.vl x) F.low * iv den Kd - iv re K).natAbs * (iv (F.vl x) F.low * iv den Kd - iv re K).natAbs + (iv (F.vl y) F.low * iv den Kd - iv im K).natAbs * (iv (F.vl y) F.low * iv den Kd - iv im K).natAbs)≤_ at h
 generalize iv (F.vl x) F.low * iv den Kd - iv re K = u at *
 generalize iv (F.vl y) F.low * iv den Kd - iv im K = v at *
 have p1:=ZlJ (iv re K)
 have p2:=ZlJ (iv im K)
 have hN0 : 0≤iv re K * iv re K + iv im K * iv im K:=by omega
 clear p1 p2 a3 q3 q4 i3
 generalize iv re K * iv re K + iv im K * iv im K = N at *
 have hu : (u * u + v * v) * ((F1 F * F1 F : Nat) : Int) = ((F1 F * F1 F * (u.natAbs * u.natAbs + v.natAbs * v.natAbs) : Nat) : Int):=by
  rw [Int.natCast_mul (F1 F * F1 F),Int.natCast_add,Int.natAbs_mul_self,Int.natAbs_mul_self,Int.mul_comm]
 have hN : (k : Int) * k * N = ((k * k * N.natAbs : Nat) : Int):=by rw [Int.natCast_mul,Int.natCast_mul,Int.natAbs_of_nonneg hN0]
 rw [hu,hN]
 unfold sgI
 split
 ·decide
 ·rw [if_neg (by omega)]; decide
theorem ZEK {F : Fm} {p q : Nat} {A C B D : Int} (h1 : Rl (F1 F) (A * C) (F.X p * (2 ^ F.sh : Nat))) (h2 : Rl (F1 F) (B * D) (F.X q * (2 ^ F.sh : Nat))) {x : Int} (h3 : Rl (F1 F) (F.X p + F.X q) x) :
  8 * (F1 F * (x * (2 ^ F.sh : Nat) - (A * C + B * D)).natAbs)≤17 * ((A * C).natAbs + (B * D).natAbs):=by
 have h4:=h3.scale ((2 ^ F.sh : Nat) : Int)
 rw [Int.add_mul] at h4
 exact sum3 (Nat.le_trans (by decide) (ZDa F)) h1 h2 h4
theorem ZDg {F : Fm} {p q : Nat} {A C B D : Int} (h1 : Rl (F1 F) (A * C) (F.X p * (2 ^ F.sh : Nat))) (h2 : Rl (F1 F) (B * D) (F.X q * (2 ^ F.sh : Nat))) {x : Int} (h3 : Rl (F1 F) (F.X p - F.X q) x) :
  8 * (F1 F * (x * (2 ^ F.sh : Nat) - (A * C - B * D)).natAbs)≤17 * ((A * C).natAbs + (B * D).natAbs):=by
 have h4:=h3.scale ((2 ^ F.sh : Nat) : Int)
 rw [Int.sub_mul,Int.sub_eq_add_neg] at h4
 have:=sum3 (Nat.le_trans (by decide) (ZDa F)) h1 h2.neg h4
 rw [Int.natAbs_neg] at this
 exact this
section
variable {F : Fm} {a b c d : Nat} (ha : a < 2 * F.sg) (hb : b < 2 * F.sg) (hc : c < 2 * F.sg) (hd : d < 2 * F.sg) (wa : inW F a) (wb : inW F b) (wc : inW F c) (wd : inW F d)
 include ha hb hc hd wa wb wc wd
theorem ZuU : (fmX F a b c d < 2 * F.sg∧F.fin (fmX F a b c d))∧fmY F a b c d < 2 * F.sg∧F.fin (fmY F a b c d):=by
 obtain ⟨p1,p2,_,p4⟩:=ZfU ha hc wa wc
 obtain ⟨q1,q2,_,q4⟩:=ZfU hb hd wb wd
 obtain ⟨r1,r2,_,r4⟩:=ZfU ha hd wa wd
 obtain ⟨s1,s2,_,s4⟩:=ZfU hb hc wb wc
 obtain ⟨x1,_⟩:=Ztw p1 q1 p4 q4
 obtain ⟨y1,_⟩:=Ztu r1 s1 r4 s4
 exact ⟨⟨x1.lt,x1.fin⟩,y1.lt,y1.fin⟩
theorem ZFM : (LoE (addD (tm F a c false).1 (tm F b d true).1) (F.low + F.low)∧iv (addD (tm F a c false).1 (tm F b d true).1) (F.low + F.low) = F.X a * F.X c - F.X b * F.X d) ∧
  (LoE (addD (tm F a d false).1 (tm F b c false).1) (F.low + F.low)∧iv (addD (tm F a d false).1 (tm F b c false).1) (F.low + F.low) = F.X a * F.X d + F.X b * F.X c) ∧
  (LoE (addD (tm F a c false).1 (tm F b d false).1) (F.low + F.low)∧iv (addD (tm F a c false).1 (tm F b d false).1) (F.low + F.low) = F.X a * F.X c + F.X b * F.X d) ∧
  (LoE (addD (tm F b c false).1 (tm F a d true).1) (F.low + F.low)∧iv (addD (tm F b c false).1 (tm F a d true).1) (F.low + F.low) = F.X b * F.X c - F.X a * F.X d):=by
 have fa:=ZbK (Zlu ha wa).1.fin
 have fb:=ZbK (Zlu hb wb).1.fin
 have fc:=ZbK (Zlu hc wc).1.fin
 have fd:=ZbK (Zlu hd wd).1.fin
 obtain ⟨m1,n1⟩:=Zcj fa fc
 obtain ⟨m2,n2⟩:=Zcj fb fd
 obtain ⟨m3,n3⟩:=Zcj fa fd
 obtain ⟨m4,n4⟩:=Zcj fb fc
 obtain ⟨i1,l1⟩:=ZdR n1 (ZmX n2)
 obtain ⟨i2,l2⟩:=ZdR n3 n4
 obtain ⟨i3,l3⟩:=ZdR n1 n2
 obtain ⟨i4,l4⟩:=ZdR n4 (ZmX n3)
 refine ⟨⟨l1,?_⟩,⟨l2,?_⟩,⟨l3,?_⟩,⟨l4,?_⟩⟩
 ·show iv (addD (mulD (F.vl a) (F.vl c)) (negD (mulD (F.vl b) (F.vl d)))) _ = _
  rw [i1,ZpI,m1,m2]; unfold Fm.X; omega
 ·show iv (addD (mulD (F.vl a) (F.vl d)) (mulD (F.vl b) (F.vl c))) _ = _
  rw [i2,m3,m4]; rfl
 ·show iv (addD (mulD (F.vl a) (F.vl c)) (mulD (F.vl b) (F.vl d))) _ = _
  rw [i3,m1,m2]; rfl
 ·show iv (addD (mulD (F.vl b) (F.vl c)) (negD (mulD (F.vl a) (F.vl d)))) _ = _
  rw [i4,ZpI,m4,m3]; unfold Fm.X; omega
theorem Ztf : cmpD (shD (sqs (farD F (fmX F a b c d) (addD (tm F a c false).1 (tm F b d true).1) (intD ((1 : Nat) : Int))) (farD F (fmY F a b c d) (addD (tm F a d false).1 (tm F b c false).1) (intD ((1 : Nat) : Int)))) (2 * ((F.fr : Int) + 1)))
  (mulD (mulD (intD ((4 : Nat) : Int)) (intD ((4 : Nat) : Int))) (sqs (addD (tm F a c false).1 (tm F b d true).1) (addD (tm F a d false).1 (tm F b c false).1)))≤0:=by
 have hF:=ZaU F
 obtain ⟨⟨_,fx⟩,_,fy⟩:=ZuU ha hb hc hd wa wb wc wd
 obtain ⟨⟨l1,i1⟩,⟨l2,i2⟩,_,_⟩:=ZFM ha hb hc hd wa wb wc wd
 obtain ⟨j1,k1⟩:=ZxZ 1 (show F.low≤0 by omega)
 obtain ⟨p1,p2,_,p4⟩:=ZfU ha hc wa wc
 obtain ⟨q1,q2,_,q4⟩:=ZfU hb hd wb wd
 obtain ⟨r1,r2,_,r4⟩:=ZfU ha hd wa wd
 obtain ⟨s1,s2,_,s4⟩:=ZfU hb hc wb wc
 obtain ⟨_,x2,_⟩:=Ztw p1 q1 p4 q4
 obtain ⟨_,y2,_⟩:=Ztu r1 s1 r4 s4
 refine within F (Kd:=F.low) fx fy k1 l1 l2 ?_
 rw [i1,i2,j1,Nat.one_mul,show 2 ^ (-F.low).toNat = 2 ^ F.sh from rfl]
 have h1:=ZDg p2 q2 x2
 have h2:=ZEK r2 s2 y2
 rw [ZAE]
 exact Zwn h1 h2 (ZzD _ _ _ _) (by decide) (by decide)
end
end Go.Cv
namespace Go.Cv
variable {G : Nat→Option (List AV)} {T : Tbl} {g : Nat}
section
variable (J : Al G T g) (hM : HasM g T) (hL : HasL g T) {F : Fm} {a b c d : Nat} (hz : Zw F (a,b)) (hw : Zw F (c,d)) (iz : inZ F (a,b)) (iw : inZ F (c,d))
 include J hM hL hz hw iz iw
theorem ZDW (k n : Nat) : Ans F Zai.res Zai.body [(1,zA a b),(2,zA c d)] k (zA (fmX F a b c d) (fmY F a b c d)) 0 n n G T:=by
 obtain ⟨p1,_,_,p4⟩:=ZfU hz.1 hw.1 iz.1 iw.1
 obtain ⟨q1,_,_,q4⟩:=ZfU hz.2 hw.2 iz.2 iw.2
 obtain ⟨r1,_,_,r4⟩:=ZfU hz.1 hw.2 iz.1 iw.2
 obtain ⟨s1,_,_,s4⟩:=ZfU hz.2 hw.1 iz.2 iw.1
 obtain ⟨x1,_⟩:=Ztw p1 q1 p4 q4
 obtain ⟨y1,_⟩:=Ztu r1 s1 r4 s4
 exact ZEG J hM hL F hz hw ⟨iz,iw⟩ x1.lt y1.lt (Zwg hM F (Zuh hz.1 hw.1 p1.fin) (Zuh hz.2 hw.2 q1.fin) (ZFt p1.lt q1.lt x1.fin) (Zuh hz.1 hw.2 r1.fin) (Zuh hz.2 hw.1 s1.fin) (ZFs r1.lt s1.lt y1.fin))
end
theorem fd820 (a b c d : AV) : fieldA true 0 2 (.agg [a,b,c,d]) = some (.agg [a,b]):=rfl
theorem trB : type_of% (And.intro (And.intro (And.intro @ZCx @ZuB) (And.intro @ZBD @ZuA)) (And.intro (And.intro @Zyg @ZxI) (And.intro @Zug (@ZpC (Env × Heap))))):=And.intro (And.intro (And.intro @ZCx @ZuB) (And.intro @ZBD @ZuA)) (And.intro (And.intro @Zyg @ZxI) (And.intro @Zug (@ZpC (Env × Heap))))
set_option maxHeartbeats 16000000 in
theorem ZhE (J : Al G T g) (hM : HasM g T) (hL : HasL g T) {f : Int} {a b c d : Nat} (ha : a < 18446744073709551616) (hb : b < 18446744073709551616) (hc : c < 18446744073709551616) (hd : d < 18446744073709551616) : run G T 316 [.int .u8 f,zA a b,zA c d] = some (.bool true):=by
 rw [Zab G T hM.ZhE]
 have hK:=ZjB (G:=G) J hM hL
 have hnil : (Heap.nil : Heap) = ⟨[],[]⟩:=rfl
 have c1:=ZaB G T hM.fast_New
 have c2:=ZaB G T hM.fast_Engine_Mul
 have c5:=ZaB G T hM.fast_Engine_Falls
 by_cases hf : f = 1∨f = 2
 ·obtain ⟨F,rfl⟩:=ZFC hf
  have s1:=Zkx J F
  have n1:=ZsP (G:=G) hM F (bs:=[zblk (a,b),zblk (c,d)])
  have g1:=Zth J F ha hb hc hd
  by_cases hzw : Zw F (a,b)∧Zw F (c,d)
  ·obtain ⟨hz,hw⟩:=hzw
   rw [if_pos ⟨hz,hw⟩] at g1
   have i1:=ZmD J hM F (Zbx hz.1) (Zbx hz.2)
   have i2:=ZmD J hM F (Zbx hw.1) (Zbx hw.2)
   change _ = some (AV.bool (decide (inZ F (a,b)))) at i1
   change _ = some (AV.bool (decide (inZ F (c,d)))) at i2
   by_cases hin : inZ F (a,b)∧inZ F (c,d)
   ·obtain ⟨iz,iw⟩:=hin
    rw [decide_eq_true iz] at i1
    rw [decide_eq_true iw] at i2
    obtain ⟨B,m1,hk,e1⟩:=(ZDW J hM hL hz hw iz iw 2 0).use (bs:=[zblk (a,b),zblk (c,d),engB F.u 0]) rfl
    have p0:=fun L => ZbZ (e1 0 _ (by decide) rfl) L
    have p1:=fun L => ZbZ (e1 1 _ (by decide) rfl) L
    have fl:=ZnA (G:=G) hL hM hk
    obtain ⟨⟨x1,x2⟩,y1,y2⟩:=ZuU hz.1 hz.2 hw.1 hw.2 iz.1 iz.2 iw.1 iw.2
    have wi:=Ztf hz.1 hz.2 hw.1 hw.2 iz.1 iz.2 iw.1 iw.2
    have fa:=(Zlu hz.1 iz.1).1.fin
    have fb:=(Zlu hz.2 iz.2).1.fin
    have fc:=(Zlu hw.1 iw.1).1.fin
    have fd:=(Zlu hw.2 iw.2).1.fin
    obtain ⟨u,v,pr⟩:=ZjM J hM F hz.1 hz.2 hw.1 hw.2 fa fb fc fd
    have g2:=ZoY J F (Zbx x1) (Zbx y1)
    rw [if_pos ⟨x1,y1⟩] at g2
    have fi:=ZfM J F x1 y1
    rw [decide_eq_true ⟨x2,y2⟩] at fi
    obtain ⟨z1,in1⟩:=Zku J (n:=((1 : Nat) : Int)) (by decide) (by decide)
    have br : Bd (addD (tm F a c false).1 (tm F b d true).1) 40000:=(Zfz (ZgW F a c false).1 (ZgW F b d true).1).mono (by decide)
    have bi : Bd (addD (tm F a d false).1 (tm F b c false).1) 40000:=(Zfz (ZgW F a d false).1 (ZgW F b c false).1).mono (by decide)
    have wt:=ZkE J hM F (z1:=u) (z2:=v) (z3:=z1) (k:=4) x1 y1 x2 y2 br bi ((ZBd (n:=1) (by decide)).mono (by decide)) (by decide)
    rw [decide_eq_true wi] at wt
    clear wi br bi fa fb fc fd e1 hk x1 x2 y1 y2 ha hb hc hd hf hz hw iz iw
    unfold zblk at *
    generalize fmX F a b c d = x at *
    generalize fmY F a b c d = y at *
    generalize addD (tm F a c false).1 (tm F b d true).1 = R1 at *
    generalize addD (tm F a d false).1 (tm F b c false).1 = R2 at *
    generalize intD ((1 : Nat) : Int) = R3 at *
    generalize F.u = fu at *
    simp only [zA,DyA,A3,cast0,List.cons_append,List.nil_append,List.length_cons,List.length_nil,Nat.zero_add,show ((0 : Nat) : Int) = 0 from rfl,show ((1 : Nat) : Int) = 1 from rfl,show ((4 : Nat) : Int) = 4 from rfl] at *
    repeat' (first|simp (maxSteps:=9^7) only [seval,exC,ZaC,fcB,ZAs,ZAr,gaB,trB,List.getElem?_cons_succ,List.getElem?_cons_zero,c1,c2,c5,n1,m1,fl,p0,p1,s1,i1,i2,g1,g2,fi,in1,pr,wt,hK,Zpo,Zpq,and_self,ZlK,hnil]|simp (maxSteps:=9^7) (disch:=first|with_reducible assumption|omega) only [dxB]|(simp only [kdB];split)|(simp only [kvB];split))
   ·have x1:=Zmg J F (md:=1) (by decide) hz.1 hz.2 hw.1 hw.2
    have x2:=Zpb J F (md:=1) (by decide) hz.1 hz.2 hw.1 hw.2
    obtain ⟨B,m1,hk,e1⟩:=(ZwG J hM hL F (k:=2) (n:=0) hz hw hin (by decide) x1).use (bs:=[zblk (a,b),zblk (c,d),engB F.u 0]) rfl
    have p0:=fun L => ZbZ (e1 0 _ (by decide) rfl) L
    have p1:=fun L => ZbZ (e1 1 _ (by decide) rfl) L
    have fl:=ZnA (G:=G) hL hM hk
    have hor : decide (inZ F (a,b)) = false∨decide (inZ F (a,b)) = true∧decide (inZ F (c,d)) = false:=by
     by_cases q : inZ F (a,b)
     ·exact Or.inr ⟨decide_eq_true q,decide_eq_false (fun r => hin ⟨q,r⟩)⟩
     ·exact Or.inl (decide_eq_false q)
    clear e1 hk ha hb hc hd hf hz hw hin x1
    unfold zblk at *
    generalize mulZ F 1 a b c d = Z at *
    generalize decide (inZ F (a,b)) = iz at *
    generalize decide (inZ F (c,d)) = iw at *
    generalize F.u = fu at *
    simp only [zA,zrA,cast0,List.cons_append,List.nil_append,List.length_cons,List.length_nil,Nat.zero_add,show ((0 : Nat) : Int) = 0 from rfl,show ((0 + 1 : Nat) : Int) = 1 from rfl,show ((1 : Nat) : Int) = 1 from rfl] at *
    rcases hor with rfl | ⟨rfl,rfl⟩
    all_goals repeat' (first|simp (maxSteps:=9^7) only [seval,exC,ZaC,fcB,ZAs,ZAr,gaB,trB,fd820,List.getElem?_cons_succ,List.getElem?_cons_zero,c1,c2,c5,n1,m1,fl,p0,p1,s1,i1,i2,g1,x2,hK,Zpo,Zpq,and_self,ZlK,hnil]|simp (maxSteps:=9^7) (disch:=first|with_reducible assumption|omega) only [dxB]|(simp only [kdB];split)|(simp only [kvB];split))
  ·rw [if_neg (show ¬ ((a < 2 * F.sg∧b < 2 * F.sg)∧c < 2 * F.sg∧d < 2 * F.sg) from hzw)] at g1
   obtain ⟨B,m1,hk,e1⟩:=(ZDc J hM hL F (k:=2) (n:=0) ha hb hc hd hzw).use (bs:=[zblk (a,b),zblk (c,d),engB F.u 0]) rfl
   have p0:=fun L => ZbZ (e1 0 _ (by decide) rfl) L
   have p1:=fun L => ZbZ (e1 1 _ (by decide) rfl) L
   have fl:=ZnA (G:=G) hL hM hk
   clear e1 hk ha hb hc hd hf hzw
   unfold zblk at *
   generalize F.u = fu at *
   simp only [zA,cast0,List.cons_append,List.nil_append,List.length_cons,List.length_nil,Nat.zero_add,show ((0 : Nat) : Int) = 0 from rfl] at *
   repeat' (first|simp (maxSteps:=9^7) only [seval,exC,ZaC,fcB,ZAs,ZAr,gaB,c1,c2,c5,n1,m1,fl,p0,p1,s1,g1,hK,Zpo,Zpq,and_self,ZlK,hnil]|simp (maxSteps:=9^7) (disch:=first|with_reducible assumption|omega) only [dxB]|(simp only [kdB];split)|(simp only [kvB];split))
 ·have s1:=ZmA J (f:=f)
  rw [decide_eq_false hf] at s1
  have n1:=ZpF (G:=G) hM hf (bs:=[zblk (a,b),zblk (c,d)])
  clear hf
  unfold zblk at *
  simp only [zA,List.cons_append,List.nil_append] at *
  repeat' (first|simp (maxSteps:=9^7) only [seval,exC,ZaC,fcB,ZAs,ZAr,gaB,c1,n1,s1,hK,hnil]|simp (maxSteps:=9^7) (disch:=first|with_reducible assumption|omega) only [dxB]|(simp only [kdB];split)|(simp only [kvB];split))
end Go.Cv
