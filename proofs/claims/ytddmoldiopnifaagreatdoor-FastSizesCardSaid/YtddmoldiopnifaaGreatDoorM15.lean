/-
 A part of the proof of the statements of this seat (texts that the law's own text leans on): no condition.
-/
import Derived.Test.YtddmoldiopnifaaGreatDoorM14
import Derived.Test.YtddmoldiopnifaaGreatDoorM7
set_option linter.unusedVariables false
set_option linter.unusedSimpArgs false
namespace Go.Cv
variable {G : Nat→Option (List AV)} {T : Tbl} {g : Nat}
theorem ZnH (b : Nat) (k : IntKind) : iaddrAV 2 2 (.ptr b 0) (.int k 0) = some (.ptr b 0):=rfl
theorem ZnI (b : Nat) (k : IntKind) : iaddrAV 2 2 (.ptr b 0) (.int k 1) = some (.ptr b 2):=rfl
theorem ZFq (b : Nat) (k : IntKind) : iaddrAV 2 1 (.ptr b 0) (.int k 0) = some (.ptr b 0):=rfl
theorem ZFr (b : Nat) (k : IntKind) : iaddrAV 2 1 (.ptr b 0) (.int k 1) = some (.ptr b 1):=rfl
theorem ZFw (a b c d : AV) (k : IntKind) : indexV true 2 2 (.agg [a,b,c,d]) (.int k 0) = some (.agg [a,b]):=rfl
theorem ZFx (a b c d : AV) (k : IntKind) : indexV true 2 2 (.agg [a,b,c,d]) (.int k 1) = some (.agg [c,d]):=rfl
def sideA (p : Int × Bool) : AV:=.agg [.int .i64 p.1,.bool p.2]
def boxA (p q : Int × Bool) : AV:=.agg [.int .i64 p.1,.bool p.2,.int .i64 q.1,.bool q.2]
theorem Zbl (J : Al G T g) {p q : Int × Bool} (hp : SdC p) (hq : SdC q) : run G T 308 [sideA p,sideA q] = some (sideA (sT p q)):=by
 rw [Zac G T J.J.Zbl]
 have w : IntKind.i64.wrap (p.1 * q.1) = p.1 * q.1:=Zad (by rcases hp with rfl | rfl | rfl | rfl <;> rcases hq with rfl | rfl | rfl | rfl <;> decide)
 obtain ⟨n,s⟩:=p
 obtain ⟨k,t⟩:=q
 have hne : (s != t) = !decide (s = t):=by cases s <;> cases t <;> rfl
 simp only [sideA,sT,hne] at *
 repeat' (first|simp (maxSteps:=9^7) only [seval,exC,ZbK,w]|simp (maxSteps:=9^7) (disch:=first|with_reducible assumption|omega) only [dxB]|(simp only [kdB];split)|(simp only [kvB];split))
theorem Zcr (J : Al G T g) {p : Int × Bool} (hp : SdC p) : run G T 302 [sideA p] = some (sideA (sM p)):=by
 rw [Zac G T J.J.Zcr]
 rcases hp with rfl | rfl | rfl | rfl <;> (
  have w1 : IntKind.i64.wrap (- -1) = 1:=rfl
  have w2 : IntKind.i64.wrap (-1) = -1:=rfl
  have w3 : IntKind.i64.wrap 0 = 0:=rfl
  have w4 : IntKind.i64.wrap 1 = 1:=rfl
  have w5 : IntKind.i64.wrap (-0) = 0:=rfl
  simp only [sideA,sM,Int.neg_zero,Int.reduceNeg,Int.neg_neg,Bool.not_true,Bool.not_false] at *
  repeat' (first|simp (maxSteps:=9^7) only [seval,exC,ZbJ,w1,w2,w3,w4,w5]|simp (maxSteps:=9^7) (disch:=first|with_reducible assumption|omega) only [dxB]|(simp only [kdB];split)|(simp only [kvB];split)))
theorem ZcR (J : Al G T g) {md : Int} {p q : Int × Bool} (hp : SdC p) (hq : SdC q) : run G T 309 [sideA p,sideA q,.int .u8 md] = some (sideA (sP md p q)):=by
 rw [Zac G T J.J.ZcR]
 have w : IntKind.i64.wrap (p.1 + q.1) = p.1 + q.1:=Zad (by rcases hp with rfl | rfl | rfl | rfl <;> rcases hq with rfl | rfl | rfl | rfl <;> decide)
 unfold sP
 obtain ⟨n,s⟩:=p
 obtain ⟨k,t⟩:=q
 simp only [sideA] at *
 by_cases h0 : n + k = 0
 ·have h0' : ¬ n + k≠0:=fun h => h h0
  rw [if_neg h0']
  by_cases h1 : n = 0
  ·by_cases h2 : s = t
   ·rw [if_pos ⟨h1,h2⟩]
    subst h2
    rw [h0] at w
    repeat' (first|simp (maxSteps:=9^7) only [seval,exC,ZaO,w,h0,h1]|simp (maxSteps:=9^7) (disch:=first|with_reducible assumption|omega) only [dxB]|(simp only [kdB];split)|(simp only [kvB];split))
   ·rw [if_neg (fun h => h2 h.2)]
    repeat' (first|simp (maxSteps:=9^7) only [seval,exC,ZaO,w,h0,h1,h2]|simp (maxSteps:=9^7) (disch:=first|with_reducible assumption|omega) only [dxB]|(simp only [kdB];split)|(simp only [kvB];split))
  ·rw [if_neg (fun h => h1 h.1)]
   repeat' (first|simp (maxSteps:=9^7) only [seval,exC,ZaO,w,h0,h1]|simp (maxSteps:=9^7) (disch:=first|with_reducible assumption|omega) only [dxB]|(simp only [kdB];split)|(simp only [kvB];split))
 ·rw [if_pos h0]
  repeat' (first|simp (maxSteps:=9^7) only [seval,exC,ZaO,w,h0]|simp (maxSteps:=9^7) (disch:=first|with_reducible assumption|omega) only [dxB]|(simp only [kdB];split)|(simp only [kvB];split))
theorem ZeY (J : Al G T g) (F : Fm) {w : Nat} {inf : Bool} (hw : w < 2 * F.sg) : run G T 307 [.int .u8 F.u,.int .u64 (w : Int),.bool inf] = some (sideA (sd F w inf)):=by
 rw [Zac G T J.J.ZeY]
 have h1:=ZhV J F hw
 have h2:=ZeD J F hw
 unfold sd
 generalize F.cls w = c at *
 generalize F.ng w = n at *
 generalize F.ex w = x at *
 generalize F.fc w = y at *
 simp only [fldA,sideA] at *
 by_cases h5 : c = 5
 ·subst h5
  rw [if_pos rfl]
  cases inf <;> repeat' (first|simp (maxSteps:=9^7) only [seval,exC,ZaX,h1,h2]|simp (maxSteps:=9^7) (disch:=first|with_reducible assumption|omega) only [dxB]|(simp only [kdB];split)|(simp only [kvB];split))
 ·rw [if_neg h5]
  cases inf
  ·simp only [Bool.false_eq_true,if_false]
   by_cases k : c = 1
   ·rw [if_neg (fun h => h k)]
    repeat' (first|simp (maxSteps:=9^7) only [seval,exC,ZaX,h1,h2,h5,k]|simp (maxSteps:=9^7) (disch:=first|with_reducible assumption|omega) only [dxB]|(simp only [kdB];split)|(simp only [kvB];split))
   ·rw [if_pos k]
    cases n <;> repeat' (first|simp (maxSteps:=9^7) only [seval,exC,ZaX,h1,h2,h5,k]|simp (maxSteps:=9^7) (disch:=first|with_reducible assumption|omega) only [dxB]|(simp only [kdB];split)|(simp only [kvB];split))
  ·simp only [if_true]
   by_cases k : c = 4
   ·rw [if_pos k]
    cases n <;> repeat' (first|simp (maxSteps:=9^7) only [seval,exC,ZaX,h1,h2,h5,k]|simp (maxSteps:=9^7) (disch:=first|with_reducible assumption|omega) only [dxB]|(simp only [kdB];split)|(simp only [kvB];split))
   ·rw [if_neg k]
    repeat' (first|simp (maxSteps:=9^7) only [seval,exC,ZaX,h1,h2,h5,k]|simp (maxSteps:=9^7) (disch:=first|with_reducible assumption|omega) only [dxB]|(simp only [kdB];split)|(simp only [kvB];split))
theorem ZcP (J : Al G T g) (F : Fm) {a b : Nat} {c : Int} (ha : a < 2 * F.sg) (hb : b < 2 * F.sg) : run G T 291 [.int .u8 F.u,zA a b,.int .u8 c] = some (boxA (sd F a (decide (c = 3))) (sd F b (decide (c = 3)))):=by
 rw [Zac G T J.J.ZcP]
 have h1:=ZeY J F (inf:=decide (c = 3)) ha
 have h2:=ZeY J F (inf:=decide (c = 3)) hb
 generalize sd F a (decide (c = 3)) = p at *
 generalize sd F b (decide (c = 3)) = q at *
 simp only [zA,sideA,boxA] at *
 repeat' (first|simp (maxSteps:=9^7) only [seval,exC,ZdU,h1,h2]|simp (maxSteps:=9^7) (disch:=first|with_reducible assumption|omega) only [dxB]|(simp only [kdB];split)|(simp only [kvB];split))
theorem ZcQ (J : Al G T g) {md : Int} {p q r s : Int × Bool} (hp : SdC p) (hq : SdC q) (hr : SdC r) (hs : SdC s) :
  run G T 292 [boxA p q,boxA r s,.int .u8 md] = some (boxA (bxT md p q r s).1 (bxT md p q r s).2):=by
 rw [Zac G T J.J.ZcQ]
 have h1:=Zbl J hp hr
 have h2:=Zbl J hq hs
 have h3:=Zcr J (sT_c hq hs)
 have h4:=ZcR J (md:=md) (sT_c hp hr) (sM_c (sT_c hq hs))
 have h5:=Zbl J hp hs
 have h6:=Zbl J hq hr
 have h7:=ZcR J (md:=md) (sT_c hp hs) (sT_c hq hr)
 unfold bxT
 generalize sP md (sT p r) (sM (sT q s)) = x at *
 generalize sP md (sT p s) (sT q r) = y at *
 generalize sM (sT q s) = z at *
 generalize sT p r = t1 at *
 generalize sT q s = t2 at *
 generalize sT p s = t3 at *
 generalize sT q r = t4 at *
 simp only [sideA,boxA] at *
 repeat' (first|simp (maxSteps:=9^7) only [seval,exC,ZbY,ZnH,ZnI,h1,h2,h3,h4,h5,h6,h7]|simp (maxSteps:=9^7) (disch:=first|with_reducible assumption|omega) only [dxB]|(simp only [kdB];split)|(simp only [kvB];split))
def sideW (F : Fm) (size : Nat) (p : Int × Bool) : Nat:=if p.2 then F.min (if p.1≠0 then size else 0) else if p.1≠0 then size else 0
theorem ZCM (e : Env) (h : Heap) : evL G T Zch e h = kS G T (evL G T Zcg (keepE [1,2,6,7,10,11] e) h) Zch:=Zaf G T rfl e h
set_option maxHeartbeats 4000000 in
theorem ZbT (J : Al G T g) (F : Fm) {size : Nat} (hs : size < 2 * F.sg) {p q : Int × Bool} : run G T 293 [boxA p q,.int .u8 F.u,.int .u64 (size : Int)] = some (zA (sideW F size p) (sideW F size q)):=by
 rw [Zac G T J.J.ZbT]
 have z0 : (0 : Nat) < 2 * F.sg:=by cases F <;> decide
 have n1:=Znc J F hs
 have n2:=Znc J F z0
 unfold sideW
 obtain ⟨n,s⟩:=p
 obtain ⟨k,t⟩:=q
 simp only [boxA,zA,cast0] at *
 by_cases h1 : n = 0 <;> by_cases h2 : k = 0 <;> cases s <;> cases t <;> simp only [h1,h2,ne_eq,not_true_eq_false,not_false_eq_true,if_true,if_false,Bool.false_eq_true,cast0] <;>
  repeat' (first|simp (maxSteps:=9^7) only [seval,exC,ZbZ,ZFw,ZFx,ZFq,ZFr,ZCM,Zcg,h1,h2,n1,n2,wr_1,wr1,wr_2,wr2]|simp (maxSteps:=9^7) (disch:=first|with_reducible assumption|omega) only [dxB]|(simp only [kdB];split)|(simp only [kvB];split))
theorem ZdG (J : Al G T g) (F : Fm) {x : Nat} : run G T 290 [.int .u8 F.u,.int .u8 (x : Int)] = some (zrA (F.nan,x) (F.nan,x)):=by
 rw [Zac G T J.J.ZdG]
 have h1:=Zmd J F
 simp only [zrA]
 repeat' (first|simp (maxSteps:=9^7) only [seval,exC,ZeS,h1]|simp (maxSteps:=9^7) (disch:=first|with_reducible assumption|omega) only [dxB]|(simp only [kdB];split)|(simp only [kvB];split))
def apC (bs : List Blk) (f : List Nat) (b n : Nat) (o : Option Blk) (w : Option (List AV)) : Option (AV × Heap) :=
 match w with
 | some nw => match o with
  | some k => if k.dead = false∧f.contains b = false∧n * 1≤k.cs.length∧n + 1≤boundApp then some (.own bs.length 0 (n + 1) 1,⟨bs.set b ⟨k.cs,true⟩ ++ [⟨k.cs.take (n * 1) ++ nw,false⟩],f⟩) else none
  | none => none
 | none => none
theorem ZHa (bs : List Blk) (f : List Nat) (b n c : Nat) : appV ⟨bs,f⟩ 1 1 (.own b 0 n 1) (.own c 0 1 1) = apC bs f b n (bs[b]?) (subB (bs[c]?) 0 1):=by
 have h1:=Zod bs f c 0 1
 simp only [appV,sliceCells,if_true,Nat.one_mul,h1]
 cases subB (bs[c]?) 0 1 with
 | none => rfl
 | some nw =>
  simp only [Option.map_some,apC]
  cases bs[b]? with
  | none => rfl
  | some k => simp
theorem ZGY (bs : List Blk) (b : Nat) (cs nw : List AV) : apC bs [] b 0 (some ⟨cs,false⟩) (some nw) = some (.own bs.length 0 1 1,⟨bs.set b ⟨cs,true⟩ ++ [⟨nw,false⟩],[]⟩):=by
 simp [apC,boundApp]
theorem ZGZ (bs : List Blk) (b : Nat) (x1 : AV) (nw : List AV) : apC bs [] b 1 (some ⟨[x1],false⟩) (some nw) = some (.own bs.length 0 2 1,⟨bs.set b ⟨[x1],true⟩ ++ [⟨x1 :: nw,false⟩],[]⟩):=by
 simp [apC,boundApp]
theorem ZHv (h : Mem) (x y : AV) (l : List AV) : rdAt G h 2 (.iptr (x :: y :: l) 0) = some [x,y]:=by simp [rdAt]
theorem ZHw (h : Mem) (x y u v : AV) (l : List AV) : rdAt G h 2 (.iptr (x :: y :: u :: v :: l) 2) = some [u,v]:=by simp [rdAt]
theorem ZDP (e : Env) (h : Heap) : evL G T Zew e h = kS G T (evL G T Zev (keepE [0,10,27,28,29] e) h) Zew:=Zaf G T rfl e h
theorem Zmc (J : Al G T g) (F : Fm) {w : Nat} (hw : w < 18446744073709551616) : run G T 312 [.int .u8 F.u,.int .u64 (w : Int)] = some (.int .i64 (if w < 2 * F.sg then 0 else 6)):=by
 rw [Zac G T J.J.Zmc]
 have h1:=ZhW J F hw
 generalize (if w < 2 * F.sg then (0 : Int) else 6) = e at *
 simp only [shA] at *
 repeat' (first|simp (maxSteps:=9^7) only [seval,exC,Zix,h1]|simp (maxSteps:=9^7) (disch:=first|with_reducible assumption|omega) only [dxB]|(simp only [kdB];split)|(simp only [kvB];split))
theorem ZlE (J : Al G T g) (F : Fm) {a b : Nat} (ha : a < 18446744073709551616) (hb : b < 18446744073709551616) : run G T 304 [.int .u8 F.u,zA a b] = some (.int .i64 (if a < 2 * F.sg∧b < 2 * F.sg then 0 else 6)):=by
 rw [Zac G T J.J.ZlE]
 have h1:=Zmc J F ha
 have h2:=Zmc J F hb
 simp only [zA]
 by_cases k1 : a < 2 * F.sg
 ·rw [if_pos k1] at h1
  by_cases k2 : b < 2 * F.sg
  ·rw [if_pos k2] at h2
   rw [if_pos ⟨k1,k2⟩]
   repeat' (first|simp (maxSteps:=9^7) only [seval,exC,Zes,h1,h2]|simp (maxSteps:=9^7) (disch:=first|with_reducible assumption|omega) only [dxB]|(simp only [kdB];split)|(simp only [kvB];split))
  ·rw [if_neg k2] at h2
   rw [if_neg (fun h => k2 h.2)]
   repeat' (first|simp (maxSteps:=9^7) only [seval,exC,Zes,h1,h2]|simp (maxSteps:=9^7) (disch:=first|with_reducible assumption|omega) only [dxB]|(simp only [kdB];split)|(simp only [kvB];split))
 ·rw [if_neg k1] at h1
  rw [if_neg (fun h => k1 h.1)]
  repeat' (first|simp (maxSteps:=9^7) only [seval,exC,Zes,h1]|simp (maxSteps:=9^7) (disch:=first|with_reducible assumption|omega) only [dxB]|(simp only [kdB];split)|(simp only [kvB];split))
def im2 (a b c d : Nat) : AV:=.imm 2 [.int .u64 (a : Int),.int .u64 (b : Int),.int .u64 (c : Int),.int .u64 (d : Int)]
theorem ZlV (J : Al G T g) (F : Fm) {md : Int} (hm : 1≤md∧md≤5) {a b c d : Nat} (ha : a < 2 * F.sg) (hb : b < 2 * F.sg) (hc : c < 2 * F.sg) (hd : d < 2 * F.sg) :
  run G T 289 [.int .u8 F.u,.int .u8 md,im2 a b c d] = some (.tup [.imm 2 [.int .u8 (zcl (F.cls a) (F.cls b)),.int .u8 (zcl (F.cls c) (F.cls d))],.int .i64 0]):=by
 rw [Zac G T J.J.special_open]
 have o1:=ZhQ J F hm (neg:=false)
 have c1:=ZhL J F ha hb
 have c2:=ZhL J F hc hd
 generalize zcl (F.cls a) (F.cls b) = x at *
 generalize zcl (F.cls c) (F.cls d) = y at *
 simp only [zA,im2] at *
 repeat' (first|simp (maxSteps:=9^7) only [seval,exC,ZeT,o1,c1,c2,ZDP,Zev,Zvr,Zvs,fa_i,ZHv,ZHw,ZGY,ZGZ,wr_1,wr1,wr_2,wr2,ZHa,List.set_cons_zero,List.set_cons_succ,List.cons_append,List.nil_append ]|simp (maxSteps:=9^7) (disch:=first|with_reducible assumption|omega) only [dxB,ZBh]|(simp only [kdB];split)|(simp only [kvB];split))
def smS (F : Fm) (a b c d : Nat) : Bool:=!decide (zcl (F.cls a) (F.cls b)≤2∧zcl (F.cls c) (F.cls d)≤2)
def bx (F : Fm) (a b : Nat) : (Int × Bool) × (Int × Bool):=(sd F a (decide (zcl (F.cls a) (F.cls b) = 3)),sd F b (decide (zcl (F.cls a) (F.cls b) = 3)))
def smP (F : Fm) (md : Int) (a b c d : Nat) : (Int × Bool) × (Int × Bool):=bxT md (bx F a b).1 (bx F a b).2 (bx F c d).1 (bx F c d).2
def smW (F : Fm) (md : Int) (a b c d : Nat) : (Nat × Nat) × (Nat × Nat) :=
 if zcl (F.cls a) (F.cls b)≤2∧zcl (F.cls c) (F.cls d)≤2 then ((0,0),(0,0))
 else if zcl (F.cls a) (F.cls b) = 4∨zcl (F.cls c) (F.cls d) = 4 then ((F.nan,0),(F.nan,0))
 else if zcl (F.cls a) (F.cls b) = 1∨zcl (F.cls c) (F.cls d) = 1 then ((F.nan,1),(F.nan,1))
 else ((sideW F (F.inf false) (smP F md a b c d).1,0),(sideW F (F.inf false) (smP F md a b c d).2,0))
def bxd (F : Fm) (c d : Nat) : (Int × Bool) × (Int × Bool):=(if zcl (F.cls c) (F.cls d) = 1 then (if (bx F c d).1.2 then -1 else 1,(bx F c d).1.2) else (bx F c d).1,sM (bx F c d).2)
def sdP (F : Fm) (md : Int) (a b c d : Nat) : (Int × Bool) × (Int × Bool):=bxT md (bx F a b).1 (bx F a b).2 (bxd F c d).1 (bxd F c d).2
def sdS (F : Fm) (a b c d : Nat) : Bool:=!decide (zcl (F.cls a) (F.cls b)≤2∧zcl (F.cls c) (F.cls d) = 2)
def sdW (F : Fm) (md : Int) (a b c d : Nat) : (Nat × Nat) × (Nat × Nat) :=
 if zcl (F.cls a) (F.cls b)≤2∧zcl (F.cls c) (F.cls d) = 2 then ((0,0),(0,0))
 else if zcl (F.cls a) (F.cls b) = 4∨zcl (F.cls c) (F.cls d) = 4 then ((F.nan,0),(F.nan,0))
 else if zcl (F.cls a) (F.cls b) = zcl (F.cls c) (F.cls d) then ((F.nan,1),(F.nan,1))
 else if zcl (F.cls c) (F.cls d) = 3 then ((sideW F 0 (sdP F md a b c d).1,0),(sideW F 0 (sdP F md a b c d).2,0))
 else if zcl (F.cls a) (F.cls b) = 3 then ((sideW F (F.inf false) (sdP F md a b c d).1,0),(sideW F (F.inf false) (sdP F md a b c d).2,0))
 else ((sideW F (F.inf false) (sdP F md a b c d).1,2),(sideW F (F.inf false) (sdP F md a b c d).2,2))
theorem Zmg (F : Fm) (a b : Nat) : zcl (F.cls a) (F.cls b) = 1∨zcl (F.cls a) (F.cls b) = 2∨zcl (F.cls a) (F.cls b) = 3∨zcl (F.cls a) (F.cls b) = 4:=by
 unfold zcl; repeat' split
 all_goals omega
theorem ZBd (F : Fm) (n : Bool) : F.inf n < 2 * F.sg:=by cases F <;> cases n <;> decide
theorem bx_c (F : Fm) (a b : Nat) : SdC (bx F a b).1∧SdC (bx F a b).2:=⟨sd_c _ _ _,sd_c _ _ _⟩
theorem ZEB (F : Fm) (c d : Nat) : SdC (bxd F c d).1∧SdC (bxd F c d).2:=by
 refine ⟨?_,sM_c (bx_c F c d).2⟩
 unfold bxd
 by_cases h : zcl (F.cls c) (F.cls d) = 1
 ·simp only [if_pos h]; unfold SdC; cases (bx F c d).1.2 <;> simp
 ·simp only [if_neg h]; exact (bx_c F c d).1
theorem Zho (x y : AV) (k : IntKind) : iaddrV 1 (.imm 2 [x,y]) (.int k 0) = some (.iptr [x,y] 0):=rfl
theorem Zhp (x y : AV) (k : IntKind) : iaddrV 1 (.imm 2 [x,y]) (.int k 1) = some (.iptr [x,y] 1):=rfl
set_option maxHeartbeats 8000000 in
theorem ZkS (J : Al G T g) (F : Fm) {md : Int} (hm : 1≤md∧md≤5) {a b c d : Nat} (ha : a < 2 * F.sg) (hb : b < 2 * F.sg) (hc : c < 2 * F.sg) (hd : d < 2 * F.sg) :
  run G T 268 [.int .u8 F.u,.int .u8 md,zA a b,zA c d] = some (.tup [zrA (smW F md a b c d).1 (smW F md a b c d).2,.bool (smS F a b c d),.int .i64 0]):=by
 rw [Zac G T J.J.ZkS]
 have o1:=ZlV J F hm ha hb hc hd
 have i1:=ZiW J F (n:=false)
 have n0:=ZdG J F (x:=0)
 have n1:=ZdG J F (x:=1)
 have b1:=ZcP J F (c:=zcl (F.cls a) (F.cls b)) ha hb
 have b2:=ZcP J F (c:=zcl (F.cls c) (F.cls d)) hc hd
 have t1:=ZcQ J (md:=md) (bx_c F a b).1 (bx_c F a b).2 (bx_c F c d).1 (bx_c F c d).2
 have w1:=ZbT J F (ZBd F false) (p:=(smP F md a b c d).1) (q:=(smP F md a b c d).2)
 have ra:=Zmg F a b
 have rc:=Zmg F c d
 rw [show sd F a (decide (zcl (F.cls a) (F.cls b) = 3)) = (bx F a b).1 from rfl,show sd F b (decide (zcl (F.cls a) (F.cls b) = 3)) = (bx F a b).2 from rfl] at b1
 rw [show sd F c (decide (zcl (F.cls c) (F.cls d) = 3)) = (bx F c d).1 from rfl,show sd F d (decide (zcl (F.cls c) (F.cls d) = 3)) = (bx F c d).2 from rfl] at b2
 rw [show bxT md (bx F a b).1 (bx F a b).2 (bx F c d).1 (bx F c d).2 = smP F md a b c d from rfl] at t1
 unfold smW smS
 generalize smP F md a b c d = P at *
 generalize bx F a b = p at *
 generalize bx F c d = q at *
 generalize zcl (F.cls a) (F.cls b) = x at *
 generalize zcl (F.cls c) (F.cls d) = y at *
 by_cases k0 : x≤2∧y≤2
 ·obtain ⟨x2,y2⟩:=k0
  rw [if_pos ⟨x2,y2⟩,decide_eq_true (show x≤2∧y≤2 from ⟨x2,y2⟩)]
  simp only [zA,zrA,im2,cast0,Bool.not_true] at *
  repeat' (first|simp (maxSteps:=9^7) only [seval,exC,ZaL,Zdg,Zcz,o1,Zho,Zhp,rp_0,rp_1,i1,x2,y2]|simp (maxSteps:=9^7) (disch:=first|with_reducible assumption|omega) only [dxB]|(simp only [kdB];split)|(simp only [kvB];split))
 ·rw [if_neg k0,decide_eq_false k0]
  by_cases k4 : x = 4∨y = 4
  ·rw [if_pos k4]
   simp only [zA,zrA,im2,cast0,Bool.not_false] at *
   rcases k4 with rfl | rfl
   ·repeat' (first|simp (maxSteps:=9^7) only [seval,exC,ZaL,Zdg,Zcz,o1,Zho,Zhp,rp_0,rp_1,i1,n0]|simp (maxSteps:=9^7) (disch:=first|with_reducible assumption|omega) only [dxB]|(simp only [kdB];split)|(simp only [kvB];split))
   ·by_cases h4 : x = 4
    ·subst h4
     repeat' (first|simp (maxSteps:=9^7) only [seval,exC,ZaL,Zdg,Zcz,o1,Zho,Zhp,rp_0,rp_1,i1,n0]|simp (maxSteps:=9^7) (disch:=first|with_reducible assumption|omega) only [dxB]|(simp only [kdB];split)|(simp only [kvB];split))
    ·by_cases h2 : x≤2
     ·repeat' (first|simp (maxSteps:=9^7) only [seval,exC,ZaL,Zdg,Zcz,o1,Zho,Zhp,rp_0,rp_1,i1,h2,h4,n0]|simp (maxSteps:=9^7) (disch:=first|with_reducible assumption|omega) only [dxB]|(simp only [kdB];split)|(simp only [kvB];split))
     ·repeat' (first|simp (maxSteps:=9^7) only [seval,exC,ZaL,Zdg,Zcz,o1,Zho,Zhp,rp_0,rp_1,i1,h2,h4,n0]|simp (maxSteps:=9^7) (disch:=first|with_reducible assumption|omega) only [dxB]|(simp only [kdB];split)|(simp only [kvB];split))
  ·rw [if_neg k4]
   have e4 : ¬ x = 4:=fun h => k4 (Or.inl h)
   have f4 : ¬ y = 4:=fun h => k4 (Or.inr h)
   by_cases k1 : x = 1∨y = 1
   ·rw [if_pos k1]
    simp only [zA,zrA,im2,cast0,Bool.not_false,Int.cast_ofNat_Int] at *
    rcases k1 with rfl | rfl
    ·have y2 : ¬ y≤2:=fun h => k0 ⟨by omega,h⟩
     repeat' (first|simp (maxSteps:=9^7) only [seval,exC,ZaL,Zdg,Zcz,o1,Zho,Zhp,rp_0,rp_1,i1,y2,f4,n1]|simp (maxSteps:=9^7) (disch:=first|with_reducible assumption|omega) only [dxB]|(simp only [kdB];split)|(simp only [kvB];split))
    ·have x2 : ¬ x≤2:=fun h => k0 ⟨h,by omega⟩
     have x1 : ¬ x = 1:=by omega
     repeat' (first|simp (maxSteps:=9^7) only [seval,exC,ZaL,Zdg,Zcz,o1,Zho,Zhp,rp_0,rp_1,i1,x2,e4,x1,n1]|simp (maxSteps:=9^7) (disch:=first|with_reducible assumption|omega) only [dxB]|(simp only [kdB];split)|(simp only [kvB];split))
   ·rw [if_neg k1]
    have e1 : ¬ x = 1:=fun h => k1 (Or.inl h)
    have f1 : ¬ y = 1:=fun h => k1 (Or.inr h)
    simp only [zA,zrA,im2,cast0,boxA,Bool.not_false] at *
    by_cases x2 : x≤2
    ·have y2 : ¬ y≤2:=fun h => k0 ⟨x2,h⟩
     repeat' (first|simp (maxSteps:=9^7) only [seval,exC,ZaL,Zdg,Zcz,o1,Zho,Zhp,rp_0,rp_1,i1,x2,y2,e4,f4,e1,f1,b1,b2,t1,w1]|simp (maxSteps:=9^7) (disch:=first|with_reducible assumption|omega) only [dxB]|(simp only [kdB];split)|(simp only [kvB];split))
    ·repeat' (first|simp (maxSteps:=9^7) only [seval,exC,ZaL,Zdg,Zcz,o1,Zho,Zhp,rp_0,rp_1,i1,x2,e4,f4,e1,f1,b1,b2,t1,w1]|simp (maxSteps:=9^7) (disch:=first|with_reducible assumption|omega) only [dxB]|(simp only [kdB];split)|(simp only [kvB];split))
theorem ZuZ (F : Fm) {a b : Nat} : (F.fin a∧F.fin b)↔zcl (F.cls a) (F.cls b)≤2:=by
 have ra:=Zgp F a
 have rb:=Zgp F b
 rw [ZaE,ZaE]
 unfold zcl
 by_cases h1 : F.cls a = 4∨F.cls b = 4
 ·rw [if_pos h1]; omega
 ·rw [if_neg h1]
  by_cases h2 : F.cls a = 5∨F.cls b = 5
  ·rw [if_pos h2]; omega
  ·rw [if_neg h2]; split <;> omega
set_option maxHeartbeats 16000000 in
theorem ZkR (J : Al G T g) (F : Fm) {md : Int} (hm : 1≤md∧md≤5) {a b c d : Nat} (ha : a < 2 * F.sg) (hb : b < 2 * F.sg) (hc : c < 2 * F.sg) (hd : d < 2 * F.sg) :
  run G T 277 [.int .u8 F.u,.int .u8 md,zA a b,zA c d] = some (.tup [zrA (sdW F md a b c d).1 (sdW F md a b c d).2,.bool (sdS F a b c d),.int .i64 0]):=by
 rw [Zac G T J.J.ZkR]
 have o1:=ZlV J F hm ha hb hc hd
 have i1:=ZiW J F (n:=false)
 have n0:=ZdG J F (x:=0)
 have n1:=ZdG J F (x:=1)
 have b1:=ZcP J F (c:=zcl (F.cls a) (F.cls b)) ha hb
 have b2:=ZcP J F (c:=zcl (F.cls c) (F.cls d)) hc hd
 have mi:=Zcr J (bx_c F c d).2
 have t1:=ZcQ J (md:=md) (bx_c F a b).1 (bx_c F a b).2 (ZEB F c d).1 (ZEB F c d).2
 have w1:=ZbT J F (ZBd F false) (p:=(sdP F md a b c d).1) (q:=(sdP F md a b c d).2)
 have w0:=ZbT J F (size:=0) (by cases F <;> decide) (p:=(sdP F md a b c d).1) (q:=(sdP F md a b c d).2)
 have ra:=Zmg F a b
 have rc:=Zmg F c d
 rw [show sd F a (decide (zcl (F.cls a) (F.cls b) = 3)) = (bx F a b).1 from rfl,show sd F b (decide (zcl (F.cls a) (F.cls b) = 3)) = (bx F a b).2 from rfl] at b1
 rw [show sd F c (decide (zcl (F.cls c) (F.cls d) = 3)) = (bx F c d).1 from rfl,show sd F d (decide (zcl (F.cls c) (F.cls d) = 3)) = (bx F c d).2 from rfl] at b2
 rw [show bxT md (bx F a b).1 (bx F a b).2 (bxd F c d).1 (bxd F c d).2 = sdP F md a b c d from rfl] at t1
 have hx2 : (bxd F c d).2 = sM (bx F c d).2:=rfl
 rw [← hx2] at mi
 have hx1 : (bxd F c d).1 = if zcl (F.cls c) (F.cls d) = 1 then (if (bx F c d).1.2 then -1 else 1,(bx F c d).1.2) else (bx F c d).1:=rfl
 clear hx2
 unfold sdW sdS
 generalize sdP F md a b c d = P at *
 generalize bxd F c d = r at *
 generalize bx F a b = p at *
 generalize bx F c d = q at *
 generalize zcl (F.cls a) (F.cls b) = x at *
 generalize zcl (F.cls c) (F.cls d) = y at *
 obtain ⟨⟨p1,p2⟩,p3,p4⟩:=p
 obtain ⟨⟨q1,q2⟩,q3,q4⟩:=q
 obtain ⟨⟨r1,r2⟩,r3,r4⟩:=r
 by_cases k0 : x≤2∧y = 2
 ·obtain ⟨x2,rfl⟩:=k0
  rw [if_pos ⟨x2,rfl⟩,decide_eq_true (show x≤2∧(2 : Int) = 2 from ⟨x2,rfl⟩)]
  clear hx1
  simp only [zA,zrA,im2,cast0,Bool.not_true] at *
  repeat' (first|simp (maxSteps:=9^7) only [seval,exC,Zax,Zdg,Zcz,o1,Zho,Zhp,rp_0,rp_1,i1,x2]|simp (maxSteps:=9^7) (disch:=first|with_reducible assumption|omega) only [dxB]|(simp only [kdB];split)|(simp only [kvB];split))
 ·rw [if_neg k0,decide_eq_false k0]
  have hk : ¬ x≤2∨¬ y = 2:=by omega
  by_cases k4 : x = 4∨y = 4
  ·rw [if_pos k4]
   clear hx1
   simp only [zA,zrA,im2,cast0,Bool.not_false] at *
   by_cases h4 : x = 4
   ·subst h4
    repeat' (first|simp (maxSteps:=9^7) only [seval,exC,Zax,Zdg,Zcz,o1,Zho,Zhp,rp_0,rp_1,i1,n0]|simp (maxSteps:=9^7) (disch:=first|with_reducible assumption|omega) only [dxB]|(simp only [kdB];split)|(simp only [kvB];split))
   ·have h5 : y = 4:=by omega
    subst h5
    by_cases h2 : x≤2
    ·repeat' (first|simp (maxSteps:=9^7) only [seval,exC,Zax,Zdg,Zcz,o1,Zho,Zhp,rp_0,rp_1,i1,h2,h4,n0]|simp (maxSteps:=9^7) (disch:=first|with_reducible assumption|omega) only [dxB]|(simp only [kdB];split)|(simp only [kvB];split))
    ·repeat' (first|simp (maxSteps:=9^7) only [seval,exC,Zax,Zdg,Zcz,o1,Zho,Zhp,rp_0,rp_1,i1,h2,h4,n0]|simp (maxSteps:=9^7) (disch:=first|with_reducible assumption|omega) only [dxB]|(simp only [kdB];split)|(simp only [kvB];split))
  ·rw [if_neg k4]
   have e4 : ¬ x = 4:=fun h => k4 (Or.inl h)
   have f4 : ¬ y = 4:=fun h => k4 (Or.inr h)
   by_cases k1 : x = y
   ·rw [if_pos k1]
    subst k1
    clear hx1
    simp only [zA,zrA,im2,cast0,Bool.not_false,Int.cast_ofNat_Int] at *
    by_cases h2 : x≤2
    ·have h3 : ¬ x = 2:=by omega
     repeat' (first|simp (maxSteps:=9^7) only [seval,exC,Zax,Zdg,Zcz,o1,Zho,Zhp,rp_0,rp_1,i1,h2,h3,e4,n1]|simp (maxSteps:=9^7) (disch:=first|with_reducible assumption|omega) only [dxB]|(simp only [kdB];split)|(simp only [kvB];split))
    ·repeat' (first|simp (maxSteps:=9^7) only [seval,exC,Zax,Zdg,Zcz,o1,Zho,Zhp,rp_0,rp_1,i1,h2,e4,n1]|simp (maxSteps:=9^7) (disch:=first|with_reducible assumption|omega) only [dxB]|(simp only [kdB];split)|(simp only [kvB];split))
   ·rw [if_neg k1]
    have k1' : ¬ y = x:=fun h => k1 h.symm
    by_cases y3 : y = 3
    ·subst y3
     rw [if_pos rfl]
     have x2 : x≤2:=by omega
     rw [if_neg (by decide)] at hx1
     injection hx1 with hr1 hr2
     subst hr1 hr2
     clear k4 k0 hk ra rc
     simp only [zA,zrA,im2,cast0,boxA,sideA,Bool.not_false] at *
     repeat' (first|simp (maxSteps:=9^7) only [seval,exC,Zax,Zdg,Zcz,ZnH,ZnI,o1,Zho,Zhp,rp_0,rp_1,i1,x2,e4,k1,b1,b2,mi,t1,w0]|simp (maxSteps:=9^7) (disch:=first|with_reducible assumption|omega) only [dxB]|(simp only [kdB];split)|(simp only [kvB];split))
    ·rw [if_neg y3]
     by_cases y1 : y = 1
     ·subst y1
      have x1 : ¬ x = 1:=k1
      rw [if_pos rfl] at hx1
      injection hx1 with hr1 hr2
      simp only at hr1 hr2
      subst hr2
      clear k4 k0 rc
      cases r2
      ·simp only [Bool.false_eq_true,if_false] at hr1
       subst hr1
       by_cases x3 : x = 3
       ·subst x3
        rw [if_pos rfl]
        simp only [zA,zrA,im2,cast0,boxA,sideA,Bool.not_false] at *
        repeat' (first|simp (maxSteps:=9^7) only [seval,exC,Zax,Zdg,Zcz,ZnH,ZnI,o1,Zho,Zhp,rp_0,rp_1,i1,b1,b2,mi,t1,w1]|simp (maxSteps:=9^7) (disch:=first|with_reducible assumption|omega) only [dxB]|(simp only [kdB];split)|(simp only [kvB];split))
       ·rw [if_neg x3]
        have x2 : x≤2:=by omega
        simp only [zA,zrA,im2,cast0,boxA,sideA,Bool.not_false,Int.cast_ofNat_Int] at *
        repeat' (first|simp (maxSteps:=9^7) only [seval,exC,Zax,Zdg,Zcz,ZnH,ZnI,o1,Zho,Zhp,rp_0,rp_1,i1,x2,x1,x3,e4,b1,b2,mi,t1,w1]|simp (maxSteps:=9^7) (disch:=first|with_reducible assumption|omega) only [dxB]|(simp only [kdB];split)|(simp only [kvB];split))
      ·simp only [if_true] at hr1
       subst hr1
       by_cases x3 : x = 3
       ·subst x3
        rw [if_pos rfl]
        simp only [zA,zrA,im2,cast0,boxA,sideA,Bool.not_false] at *
        repeat' (first|simp (maxSteps:=9^7) only [seval,exC,Zax,Zdg,Zcz,ZnH,ZnI,o1,Zho,Zhp,rp_0,rp_1,i1,b1,b2,mi,t1,w1]|simp (maxSteps:=9^7) (disch:=first|with_reducible assumption|omega) only [dxB]|(simp only [kdB];split)|(simp only [kvB];split))
       ·rw [if_neg x3]
        have x2 : x≤2:=by omega
        simp only [zA,zrA,im2,cast0,boxA,sideA,Bool.not_false,Int.cast_ofNat_Int] at *
        repeat' (first|simp (maxSteps:=9^7) only [seval,exC,Zax,Zdg,Zcz,ZnH,ZnI,o1,Zho,Zhp,rp_0,rp_1,i1,x2,x1,x3,e4,b1,b2,mi,t1,w1]|simp (maxSteps:=9^7) (disch:=first|with_reducible assumption|omega) only [dxB]|(simp only [kdB];split)|(simp only [kvB];split))
     ·have y2 : y = 2:=by omega
      subst y2
      have x3 : x = 3:=by omega
      subst x3
      rw [if_pos rfl]
      rw [if_neg (by decide)] at hx1
      injection hx1 with hr1 hr2
      subst hr1 hr2
      clear k4 k0 hk ra rc
      simp only [zA,zrA,im2,cast0,boxA,sideA,Bool.not_false] at *
      repeat' (first|simp (maxSteps:=9^7) only [seval,exC,Zax,Zdg,Zcz,ZnH,ZnI,o1,Zho,Zhp,rp_0,rp_1,i1,b1,b2,mi,t1,w1]|simp (maxSteps:=9^7) (disch:=first|with_reducible assumption|omega) only [dxB]|(simp only [kdB];split)|(simp only [kvB];split))
end Go.Cv
namespace Go.Cv
variable {G : Nat→Option (List AV)} {T : Tbl} {g : Nat}
section
variable (a1 a2 a3 a4 b1 b2 b3 b4 c1 c2 c3 c4 : AV) (k : IntKind) (h : Mem) (l : List AV)
end
end Go.Cv
namespace Go.Cv
variable {G : Nat→Option (List AV)} {T : Tbl} {g : Nat}
def tw (F : Fm) (md : Int) (x y : Dy × Bool) (b : Dy) : Nat × Nat:=ptQ F md (addD x.1 y.1) (zsg md x y) b
theorem ZDX (F : Fm) (md : Int) {x y : Dy × Bool} {b : Dy} (hx : Nz x.1) (hy : Nz y.1) : tw F md x y b = tw F md y x b:=by
 unfold tw zsg
 rw [ZqD hx hy]
 by_cases h : x.1.m = 0∧y.1.m = 0∧x.2 = y.2
 ·rw [if_pos h,if_pos ⟨h.2.1,h.1,h.2.2.symm⟩,h.2.2]
 ·rw [if_neg h,if_neg (fun q => h ⟨q.2.1,q.1,q.2.2.symm⟩)]
theorem tw_s (F : Fm) (md : Int) {x y : Dy × Bool} {b : Dy} {s : Bool} (h : (addD x.1 y.1).m = 0→s = zsg md x y) : ptQ F md (addD x.1 y.1) s b = tw F md x y b:=by
 unfold tw ptQ
 by_cases h0 : (addD x.1 y.1).m = 0
 ·rw [if_pos h0,if_pos h0,h h0]
 ·rw [if_neg h0,if_neg h0]
theorem ZxJ {d : Dy} : negD (negD d) = d:=by
 unfold negD
 by_cases h : d.m = 0
 ·rw [if_pos h,if_pos h]
 ·rw [if_neg h,if_neg h]; simp
def mulR (F : Fm) (md : Int) (a b c d : Nat) : (Nat × Nat) × (Nat × Nat):=(tw F md (tm F a c false) (tm F b d true) oneD,tw F md (tm F a d false) (tm F b c false) oneD)
def divR (F : Fm) (md : Int) (a b c d : Nat) : (Nat × Nat) × (Nat × Nat):=(tw F md (tm F a c false) (tm F b d false) (sqD F c d),tw F md (tm F b c false) (tm F a d true) (sqD F c d))
def mulZ (F : Fm) (md : Int) (a b c d : Nat) : (Nat × Nat) × (Nat × Nat):=if smS F a b c d then smW F md a b c d else mulR F md a b c d
def divZ (F : Fm) (md : Int) (a b c d : Nat) : (Nat × Nat) × (Nat × Nat):=if sdS F a b c d then sdW F md a b c d else divR F md a b c d
theorem ZEk : Nz oneD:=⟨fun h => absurd h (by decide),fun _ => rfl⟩
theorem ZEf {K : Nat} (h : 1≤K) : Bd oneD K:=by
 have : blen 1 = 1:=by decide
 exact ⟨by show blen 1≤K; omega,by show -(K : Int)≤0; omega,by show (0 : Int)≤K; omega⟩
theorem ZGA (F : Fm) {c d : Nat} (hc : c < 2 * F.sg) (hd : d < 2 * F.sg) (h : zcl (F.cls c) (F.cls d) = 2) : (sqD F c d).m≠0:=by
 have hf:=ZuZ F (a:=c) (b:=d)
 obtain ⟨fc,fd⟩:=hf.2 (by omega)
 intro h0
 obtain ⟨L,l1,l2⟩ : ∃ L : Int,LoE (F.vl c) L∧LoE (F.vl d) L:=⟨F.low,Zbi fc,Zbi fd⟩
 have e:=ZFu F l1 l2
 rw [ZaY h0] at e
 have n1:=ZkT (iv (F.vl c) L)
 have n2:=ZkT (iv (F.vl d) L)
 have z : ∀ {w : Nat},w < 2 * F.sg→F.fin w→LoE (F.vl w) L→iv (F.vl w) L * iv (F.vl w) L = 0→F.cls w = 1:=fun {w} hw fw lw q => by
  have q0 : iv (F.vl w) L = 0:=by rcases Int.mul_eq_zero.1 q with q | q <;> exact q
  have:=Zrl (Zfw F w) (b:=⟨false,0,0⟩) ⟨fun _ => rfl,fun h => absurd rfl h⟩ lw (Or.inl rfl) (by rw [q0,ZaY rfl])
  exact (Zke hw fw).2 (by rw [this])
 have c1:=z hc fc l1 (by omega)
 have c2:=z hd fd l2 (by omega)
 unfold zcl at h
 rw [c1,c2] at h
 simp at h
set_option maxHeartbeats 8000000 in
theorem Zlp (J : Al G T g) (F : Fm) {md : Int} (hm : 1≤md∧md≤5) {a b c d : Nat} (ha : a < 2 * F.sg) (hb : b < 2 * F.sg) (hc : c < 2 * F.sg) (hd : d < 2 * F.sg) :
  run G T 252 [.int .u8 F.u,.int .u8 md,zA a b,zA c d] = some (.tup [zrA (mulZ F md a b c d).1 (mulZ F md a b c d).2,.int .i64 0]):=by
 rw [Zac G T J.J.Zlp]
 have s1:=ZkS J F hm ha hb hc hd
 unfold mulZ
 by_cases hs : smS F a b c d = true
 ·rw [if_pos hs]
  rw [hs] at s1
  generalize smW F md a b c d = S at *
  simp only [zA,zrA] at *
  repeat' (first|simp (maxSteps:=9^7) only [seval,exC,Zgf,s1]|simp (maxSteps:=9^7) (disch:=first|with_reducible assumption|omega) only [dxB]|(simp only [kdB];split)|(simp only [kvB];split))
 ·rw [if_neg hs]
  rw [Bool.not_eq_true] at hs
  rw [hs] at s1
  obtain ⟨z1,y1,g1⟩:=ZcL J F ha hb
  obtain ⟨z2,y2,g2⟩:=ZcL J F hc hd
  obtain ⟨z,y,s,t,t1,e1,e2⟩:=Zdm J F (md:=md) (z1:=z1) (z2:=y1) (y1:=z2) (y2:=y2) (n1:=F.ng a) (n2:=F.ng b) (k1:=F.ng c) (k2:=F.ng d) (Zfw F a) (Zfw F b) (Zfw F c) (Zfw F d) (Zfq F a) (Zfq F b) (Zfq F c) (Zfq F d)
  obtain ⟨zo,i1⟩:=ZwN J
  have b1:=Zfp F a c
  have b2:=(Zfp F b d).neg
  have b3:=Zfp F a d
  have b4:=Zfp F b c
  have k1:=Zeb J F hm (z:=z) (z':=y) (y:=zo) (s:=s) (t:=t) (Zht (Zcj (F.vl a) (F.vl c)) (ZoL (Zcj (F.vl b) (F.vl d)))) (Zht (Zcj (F.vl a) (F.vl d)) (Zcj (F.vl b) (F.vl c))) ZEk ((ZkW b1 b2).mono (by decide)) ((ZkW b3 b4).mono (by decide)) (ZEf (by decide)) (by decide)
  have r1 : ptQ F md (addD (mulD (F.vl a) (F.vl c)) (negD (mulD (F.vl b) (F.vl d)))) s oneD = (mulR F md a b c d).1:=by
   have:=tw_s F md (x:=tm F a c false) (y:=tm F b d true) (b:=oneD) (s:=s) (fun h => by
    have h2:=e1 h
    unfold tm
    simp only [Bool.false_eq_true,if_false,if_true,Bool.bne_false,Bool.bne_true]
    exact h2)
   exact this
  have r2 : ptQ F md (addD (mulD (F.vl a) (F.vl d)) (mulD (F.vl b) (F.vl c))) t oneD = (mulR F md a b c d).2:=by
   have:=tw_s F md (x:=tm F a d false) (y:=tm F b c false) (b:=oneD) (s:=t) (fun h => by
    have h2:=e2 h
    unfold tm
    simp only [Bool.false_eq_true,if_false,Bool.bne_false]
    exact h2)
   exact this
  rw [r1,r2] at k1
  clear r1 r2 e1 e2 b1 b2 b3 b4
  generalize mulR F md a b c d = R at *
  generalize smW F md a b c d = S at *
  generalize addD (mulD (F.vl a) (F.vl c)) (negD (mulD (F.vl b) (F.vl d))) = X at *
  generalize addD (mulD (F.vl a) (F.vl d)) (mulD (F.vl b) (F.vl c)) = Y at *
  generalize oneD = one at *
  generalize F.vl a = va at *
  generalize F.vl b = vb at *
  generalize F.vl c = vc at *
  generalize F.vl d = vd at *
  generalize F.ng a = na at *
  generalize F.ng b = nb at *
  generalize F.ng c = nc at *
  generalize F.ng d = nd at *
  simp only [zA,zrA,gaussA,workA,DyA,A3] at *
  repeat' (first|simp (maxSteps:=9^7) only [seval,exC,Zgf,s1,g1,g2,t1,i1,k1]|simp (maxSteps:=9^7) (disch:=first|with_reducible assumption|omega) only [dxB]|(simp only [kdB];split)|(simp only [kvB];split))
theorem ZHg (x y z w : AV) : fieldA true 0 3 (.agg [x,y,z,w]) = some (.agg [x,y,z]):=rfl
set_option maxHeartbeats 8000000 in
theorem ZnF (J : Al G T g) (F : Fm) {md : Int} (hm : 1≤md∧md≤5) {a b c d : Nat} (ha : a < 2 * F.sg) (hb : b < 2 * F.sg) (hc : c < 2 * F.sg) (hd : d < 2 * F.sg) :
  run G T 257 [.int .u8 F.u,.int .u8 md,zA a b,zA c d] = some (.tup [zrA (divZ F md a b c d).1 (divZ F md a b c d).2,.int .i64 0]):=by
 rw [Zac G T J.J.ZnF]
 have s1:=ZkR J F hm ha hb hc hd
 unfold divZ
 by_cases hs : sdS F a b c d = true
 ·rw [if_pos hs]
  rw [hs] at s1
  generalize sdW F md a b c d = S at *
  simp only [zA,zrA] at *
  repeat' (first|simp (maxSteps:=9^7) only [seval,exC,Zge,s1]|simp (maxSteps:=9^7) (disch:=first|with_reducible assumption|omega) only [dxB]|(simp only [kdB];split)|(simp only [kvB];split))
 ·rw [if_neg hs]
  have hz : zcl (F.cls c) (F.cls d) = 2:=by
   unfold sdS at hs
   simp only [Bool.not_eq_true',decide_eq_false_iff_not,Decidable.not_not] at hs
   exact hs.2
  have hq:=ZGA F hc hd hz
  rw [Bool.not_eq_true] at hs
  rw [hs] at s1
  obtain ⟨z1,y1,g1⟩:=ZcL J F ha hb
  obtain ⟨z2,y2,g2⟩:=ZcL J F hc hd
  obtain ⟨u1,m1⟩:=Zbg J (z:=z2) (y:=z2) (n:=F.ng c) (k:=F.ng c) (Zfw F c) (Zfw F c) ((Zfq F c).mono (by decide)) ((Zfq F c).mono (by decide))
  obtain ⟨u2,m2⟩:=Zbg J (z:=y2) (y:=y2) (n:=F.ng d) (k:=F.ng d) (Zfw F d) (Zfw F d) ((Zfq F d).mono (by decide)) ((Zfq F d).mono (by decide))
  have bc:=Zfp F c c
  have bd:=Zfp F d d
  obtain ⟨u3,q1⟩:=Zlk J (z:=u1) (y:=u2) (bc.mono (by decide)) (bd.mono (by decide)) (ZbL (Zcj (F.vl c) (F.vl c)) (bc.mono (by decide))) (ZbL (Zcj (F.vl d) (F.vl d)) (bd.mono (by decide)))
  rw [show addD (mulD (F.vl c) (F.vl c)) (mulD (F.vl d) (F.vl d)) = sqD F c d from rfl] at q1
  obtain ⟨u4,n1⟩:=Zea J (z:=y2) (n:=F.ng d) (Zfw F d) ((Zfq F d).mono (by decide))
  obtain ⟨z,y,s,t,t1,e1,e2⟩:=Zdm J F (md:=md) (z1:=z1) (z2:=y1) (y1:=z2) (y2:=u4) (n1:=F.ng a) (n2:=F.ng b) (k1:=F.ng c) (k2:=!F.ng d) (Zfw F a) (Zfw F b) (Zfw F c) (ZoL (Zfw F d)) (Zfq F a) (Zfq F b) (Zfq F c) (Zfq F d).neg
  simp only [ZzU,ZxJ] at t1 e1 e2
  have b1:=Zfp F a c
  have b2:=Zfp F b d
  have b3:=(Zfp F a d).neg
  have b4:=Zfp F b c
  have k1:=Zeb J F hm (z:=z) (z':=y) (y:=u3) (s:=s) (t:=t) (Zht (Zcj (F.vl a) (F.vl c)) (Zcj (F.vl b) (F.vl d))) (Zht (ZoL (Zcj (F.vl a) (F.vl d))) (Zcj (F.vl b) (F.vl c))) (Zzk F c d) ((ZkW b1 b2).mono (by decide)) ((ZkW b3 b4).mono (by decide)) ((ZkW bc bd).mono (by decide)) hq
  have r1 : ptQ F md (addD (mulD (F.vl a) (F.vl c)) (mulD (F.vl b) (F.vl d))) s (sqD F c d) = (divR F md a b c d).1:=by
   have:=tw_s F md (x:=tm F a c false) (y:=tm F b d false) (b:=sqD F c d) (s:=s) (fun h => by
    have h2:=e1 h
    unfold tm
    simp only [Bool.false_eq_true,if_false,Bool.bne_false]
    rw [show (F.ng b != F.ng d) = !(F.ng b != !F.ng d) by cases F.ng b <;> cases F.ng d <;> rfl]
    exact h2)
   exact this
  have r2 : ptQ F md (addD (negD (mulD (F.vl a) (F.vl d))) (mulD (F.vl b) (F.vl c))) t (sqD F c d) = (divR F md a b c d).2:=by
   have:=tw_s F md (x:=tm F a d true) (y:=tm F b c false) (b:=sqD F c d) (s:=t) (fun h => by
    have h2:=e2 h
    unfold tm
    simp only [Bool.false_eq_true,if_false,if_true,Bool.bne_false,Bool.bne_true]
    rw [show (!(F.ng a != F.ng d)) = (F.ng a != !F.ng d) by cases F.ng a <;> cases F.ng d <;> rfl]
    exact h2)
   rw [show (divR F md a b c d).2 = tw F md (tm F b c false) (tm F a d true) (sqD F c d) from rfl,ZDX F md (ZoF F b c false).2 (ZoF F a d true).2]
   exact this
  rw [r1,r2] at k1
  clear r1 r2 e1 e2 b1 b2 b3 b4 bc bd hq hz
  generalize divR F md a b c d = R at *
  generalize sdW F md a b c d = S at *
  generalize addD (mulD (F.vl a) (F.vl c)) (mulD (F.vl b) (F.vl d)) = X at *
  generalize addD (negD (mulD (F.vl a) (F.vl d))) (mulD (F.vl b) (F.vl c)) = Y at *
  generalize sqD F c d = by' at *
  generalize mulD (F.vl c) (F.vl c) = cc at *
  generalize mulD (F.vl d) (F.vl d) = dd at *
  generalize negD (F.vl d) = nvd at *
  generalize (!F.ng d) = nnd at *
  generalize (F.ng c != F.ng c) = x1 at *
  generalize (F.ng d != F.ng d) = x2 at *
  generalize F.vl a = va at *
  generalize F.vl b = vb at *
  generalize F.vl c = vc at *
  generalize F.vl d = vd at *
  generalize F.ng a = na at *
  generalize F.ng b = nb at *
  generalize F.ng c = nc at *
  generalize F.ng d = nd at *
  simp only [zA,zrA,gaussA,workA,numA,DyA,A3] at *
  repeat' (first|simp (maxSteps:=9^7) only [seval,exC,Zge,ZHg,s1,g1,g2,m1,m2,q1,n1,t1,k1]|simp (maxSteps:=9^7) (disch:=first|with_reducible assumption|omega) only [dxB]|(simp only [kdB];split)|(simp only [kvB];split))
def eqsA (neg : Bool) (ls : List Bool) : AV→AV→Option AV
 | .agg a,.agg b => if (kindsA ls a && kindsA ls b) = true then (eqCells a b).map fun r => .bool (if neg then !r else r) else none
 | _,_ => none
theorem ZuF (F : CallF) (d : Option Nat) (os : List IOper) (e : Env) (h : Heap) (neg : Bool) (ls : List Bool) (x y : IOpd) : evOps G F (⟨d,.eqs neg ls x y,none⟩ :: os) e h = kV G F (eqsA neg ls (opd e x) (opd e y)) d os e h:=by
 rw [Zbt G F d _ os e h rfl]
 simp only [evQ]
 cases opd e x <;> cases opd e y <;> try rfl
 simp only [eqsA]
 split
 ·cases eqCells _ _ <;> rfl
 ·rfl
end Go.Cv
namespace Go.Cv
variable {G : Nat→Option (List AV)} {T : Tbl} {g : Nat}
section
variable (a b c d e f : AV) (k : IntKind)
end
end Go.Cv
namespace Go.Cv
variable {G : Nat→Option (List AV)} {T : Tbl} {g : Nat}
def pl (F : Fm) (w : Nat) : Int:=if F.ng w then -((w % F.sg : Nat) : Int) else ((w % F.sg : Nat) : Int)
theorem ZDT (F : Fm) (w : Nat) : (w : Int).tmod (F.sg : Int) = ((w % F.sg : Nat) : Int):=by rw [Int.tmod_eq_emod_of_nonneg (by omega)]; omega
theorem ZiO (J : Al G T g) (F : Fm) {w : Nat} (hw : w < 2 * F.sg) : run G T 283 [.int .u8 F.u,.int .u64 (w : Int)] = some (.int .i64 (pl F w)):=by
 rw [Zac G T J.J.ZiO]
 have h1:=Zga J F
 have h2:=Zds J F (ZbS hw)
 have hi:=ZcM F
 have hm:=Nat.mod_lt w (show 0 < F.sg by omega)
 have e1:=ZDT F w
 have h0 : ¬ (F.sg : Int) = 0:=by omega
 unfold pl
 have w1 : IntKind.i64.wrap ((w % F.sg : Nat) : Int) = ((w % F.sg : Nat) : Int):=Zad (by omega)
 have w2 : IntKind.i64.wrap (0 - ((w % F.sg : Nat) : Int)) = -((w % F.sg : Nat) : Int):=by rw [Int.zero_sub]; exact Zad (by omega)
 generalize ((w % F.sg : Nat) : Int) = m at *
 generalize F.ng w = n at *
 generalize (F.sg : Int) = s at *
 clear hm hi
 simp only [fldA] at *
 cases n <;> repeat' (first|simp (maxSteps:=9^7) only [seval,exC,ZfM,fd_3,h1,h2,e1,h0,w1,w2]|simp (maxSteps:=9^7) (disch:=first|with_reducible assumption|omega) only [dxB]|(simp only [kdB];split)|(simp only [kvB];split))
def stepsI (a b : Int) : Int:=if a < b then IntKind.u64.wrap (IntKind.i64.wrap (b - a)) else IntKind.u64.wrap (IntKind.i64.wrap (a - b))
theorem ZkO (J : Al G T g) (F : Fm) {a b : Nat} (ha : a < 2 * F.sg) (hb : b < 2 * F.sg) : run G T 260 [.int .u8 F.u,.int .u64 (a : Int),.int .u64 (b : Int)] = some (.int .u64 (stepsI (pl F a) (pl F b))):=by
 rw [Zac G T J.J.ZkO]
 have h1:=ZiO J F ha
 have h2:=ZiO J F hb
 unfold stepsI
 generalize pl F a = x at *
 generalize pl F b = y at *
 by_cases h : x < y
 ·rw [if_pos h]
  generalize hv : IntKind.i64.wrap (y - x) = v at *
  repeat' (first|simp (maxSteps:=9^7) only [seval,exC,ZdS,h1,h2,h,hv]|simp (maxSteps:=9^7) (disch:=first|with_reducible assumption|omega) only [dxB]|(simp only [kdB];split)|(simp only [kvB];split))
 ·rw [if_neg h]
  generalize hv : IntKind.i64.wrap (x - y) = v at *
  repeat' (first|simp (maxSteps:=9^7) only [seval,exC,ZdS,h1,h2,h,hv]|simp (maxSteps:=9^7) (disch:=first|with_reducible assumption|omega) only [dxB]|(simp only [kdB];split)|(simp only [kvB];split))
theorem ZGP (F : Fm) {w : Nat} (hw : w < 2 * F.sg) (h5 : F.cls w≠5) : w % F.sg≤F.i0∧(F.fin w↔w % F.sg < F.i0):=by
 obtain ⟨h1,h2,h3,h4⟩:=ZjT hw
 have hp:=Nat.two_pow_pos F.fr
 have e1 : F.i0 = 2 ^ F.fr * F.most:=Nat.mul_comm ..
 have hlt : F.ex w < F.most→2 ^ F.fr * F.ex w + F.fc w < 2 ^ F.fr * F.most:=fun h => by
  have:=Nat.mul_le_mul_left (2 ^ F.fr) (show F.ex w + 1≤F.most from h)
  rw [Nat.mul_add] at this; omega
 unfold Fm.fin
 rw [h2,e1]
 by_cases h : F.ex w < F.most
 ·exact ⟨Nat.le_of_lt (hlt h),fun _ => hlt h,fun _ => h⟩
 ·have he : F.ex w = F.most:=by omega
  have hm0 : F.most≠0:=by cases F <;> decide
  have hf : F.fc w = 0:=by
   by_cases q : F.fc w = 0
   ·exact q
   ·exfalso; apply h5; unfold Fm.cls; rw [if_neg (by omega),if_neg h,if_neg q]
  rw [he,hf]
  exact ⟨Nat.le_refl _,fun q => absurd q (Nat.lt_irrefl _),fun q => absurd q (Nat.lt_irrefl _)⟩
theorem ZDx (F : Fm) {w : Nat} (hw : w < 2 * F.sg) : w = w % F.sg + F.sgn (F.ng w):=(ZjT hw).1
def Near (F : Fm) (a b : Nat) : Prop:=a = b∨(F.cls a = 1∧F.cls b = 1)
theorem Zxl {d : Dy} {L : Int} (hz : Nz d) (hl : LoE d L) (h : iv d L = 0) : d.m = 0:=by
 have:=Zrl hz (b:=⟨false,0,0⟩) ⟨fun _ => rfl,fun h => absurd rfl h⟩ hl (Or.inl rfl) (by rw [h,ZaY rfl])
 rw [this]
theorem Zya (F : Fm) (md : Int) {X d b : Dy} (nX : Nz X) (nd : Nz d) (nb : Nz b) (d0 : d.m≠0) (b0 : b.m≠0) {K L : Int} (lX : LoE X (K + L)) (ld : LoE d K) (lb : LoE b L) (h : iv X (K + L) = iv d K * iv b L) : quoW F md X b = rndW F md d:=by
 obtain ⟨m1,m2⟩:=Zgs ld lb
 have e : X = mulD d b:=Zrl nX (Zcj d b) lX m2 (by rw [h,m1])
 rw [e]
 obtain ⟨n,m,x⟩:=d
 obtain ⟨n',m',x'⟩:=b
 exact ZAb F md (nd.2 d0) (nb.2 b0)
theorem ZAt (F : Fm) (md : Int) {w : Nat} (hw : w < 2 * F.sg) (hf : F.fin w) (h0 : (F.vl w).m≠0) : rndW F md (F.vl w) = (w,0):=by
 have h5 : F.cls w≠5:=by have:=ZaE.1 hf; omega
 have h1:=(ZGP F hw h5).2.1 hf
 have e:=ZDx F hw
 have n0 : w % F.sg≠0:=fun q => by
  rw [q,Nat.zero_add] at e
  apply h0
  rw [e,(ZjO F _).2.2.2]
 have:=(Zov F md (F.ng w) h1 n0).1
 rw [← e] at this
 rw [ZcV hf]; exact this
theorem ZzV {d : Dy} (h : Nz d) : mulD d oneD = d:=by
 by_cases h0 : d.m = 0
 ·rw [ZiJ (Or.inl h0),h.1 h0]
 ·unfold mulD oneD
  obtain ⟨n,m,e⟩:=d
  simp only [Bool.bne_false,Nat.mul_one,Int.add_zero]
  exact ZpS (h.2 h0)
theorem Zyb (F : Fm) {md : Int} {a b : Dy} (na : Nz a) (h0 : a.m≠0) (h1 : b.m≠0) (hf : (quoW F md a b).2 = 0) : F.fin (quoW F md a b).1∧(quoW F md a b).1 < 2 * F.sg∧a = mulD (F.vl (quoW F md a b).1) b:=by
 obtain ⟨K,N,kk,u,f1,f2,f3,f4,_,_,_,f5⟩:=ZAa F h0 h1 (Or.inl hf)
 have f5:=f5 hf
 refine ⟨f1,f2,?_⟩
 rw [ZcV f1,f3]
 have lb : LoE b b.e:=Or.inr (Int.le_refl _)
 have lv : LoE (mkD (a.n != b.n) K u) (u - kk):=ZcU (by omega)
 obtain ⟨m1,m2⟩:=Zgs lv lb
 have la : LoE a (u - kk + b.e):=Or.inr (by omega)
 refine Zrl na (Zcj _ _) la m2 ?_
 rw [m1,Zhr (by omega)]
 unfold iv
 rw [show (a.e - (u - kk + b.e)).toNat = N by omega,show (u - (u - (kk : Int))).toNat = kk by omega,show (b.e - b.e).toNat = 0 by omega,Nat.pow_zero,Nat.mul_one,f5]
 have e : K * b.m * 2 ^ kk = K * 2 ^ kk * b.m:=by rw [Nat.mul_right_comm]
 rw [e,Int.natCast_mul (K * 2 ^ kk)]
 generalize ((K * 2 ^ kk : Nat) : Int) = x
 generalize (b.m : Int) = y
 cases a.n <;> cases b.n <;> simp [Int.neg_mul,Int.mul_neg]
theorem ZAo (F : Fm) {a b : Nat} {L : Int} (la : LoE (F.vl a) L) (lb : LoE (F.vl b) L) (s : Bool) : LoE (tm F a b s).1 (L + L)∧iv (tm F a b s).1 (L + L) = if s then -(iv (F.vl a) L * iv (F.vl b) L) else iv (F.vl a) L * iv (F.vl b) L:=by
 obtain ⟨m1,m2⟩:=Zgs la lb
 unfold tm
 cases s
 ·exact ⟨m2,m1⟩
 ·exact ⟨Zpm m2,by simp only [if_true]; rw [ZtH,m1]⟩
theorem Zug (F : Fm) {md : Int} (hm : 1≤md∧md≤5) {X : Dy} {s : Bool} (nX : Nz X) (h : (ptQ F md X s oneD).2 = 0) : F.fin (ptQ F md X s oneD).1∧F.vl (ptQ F md X s oneD).1 = X:=by
 unfold ptQ at h ⊢
 by_cases h0 : X.m = 0
 ·simp only [if_pos h0]
  obtain ⟨_,_,q3,q4⟩:=ZjO F s
  exact ⟨ZaE.2 (Or.inl q3),by rw [q4,nX.1 h0]⟩
 ·rw [if_neg h0] at h
  simp only [if_neg h0]
  obtain ⟨f1,_,f3⟩:=Zyb F nX h0 (show oneD.m≠0 by decide) h
  exact ⟨f1,by rw [ZzV (Zfw F _)] at f3; exact f3.symm⟩
theorem Zuf (F : Fm) {md : Int} (hm : 1≤md∧md≤5) {w : Nat} (hw : w < 2 * F.sg) (hf : F.fin w) {X b : Dy} (nX : Nz X) (nb : Nz b) (hb : b.m≠0) {K L : Int} (lX : LoE X (K + L)) (ld : LoE (F.vl w) K) (lb : LoE b L) (h : iv X (K + L) = iv (F.vl w) K * iv b L) (s : Bool) : (ptQ F md X s b).2 = 0∧Near F (ptQ F md X s b).1 w:=by
 unfold ptQ
 by_cases h0 : (F.vl w).m = 0
 ·have hX : X.m = 0:=Zxl nX lX (by rw [h,ZaY h0,Int.zero_mul])
  simp only [if_pos hX]
  exact ⟨trivial,Or.inr ⟨(ZjO F s).2.2.1,(Zke hw hf).2 h0⟩⟩
 ·have hX : X.m≠0:=fun q => by
   rw [ZaY q] at h
   rcases Int.mul_eq_zero.1 h.symm with k | k
   ·exact h0 (Zxl (Zfw F w) ld k)
   ·exact hb (Zxl nb lb k)
  simp only [if_neg hX]
  rw [Zya F md nX (Zfw F w) nb h0 hb lX ld lb h,ZAt F md hw hf h0]
  exact ⟨rfl,Or.inl rfl⟩
theorem back (F : Fm) {md : Int} (hm : 1≤md∧md≤5) {a b c d : Nat} (ha : a < 2 * F.sg) (hb : b < 2 * F.sg) (hc : c < 2 * F.sg) (hd : d < 2 * F.sg) (fa : F.fin a) (fb : F.fin b) (hz : zcl (F.cls c) (F.cls d) = 2) (e1 : (mulR F md a b c d).1.2 = 0) (e2 : (mulR F md a b c d).2.2 = 0) :
  (F.fin (mulR F md a b c d).1.1∧F.fin (mulR F md a b c d).2.1) ∧
  ((divR F md (mulR F md a b c d).1.1 (mulR F md a b c d).2.1 c d).1.2 = 0∧Near F (divR F md (mulR F md a b c d).1.1 (mulR F md a b c d).2.1 c d).1.1 a) ∧
  ((divR F md (mulR F md a b c d).1.1 (mulR F md a b c d).2.1 c d).2.2 = 0∧Near F (divR F md (mulR F md a b c d).1.1 (mulR F md a b c d).2.1 c d).2.1 b):=by
 obtain ⟨fc,fd⟩:=(ZuZ F (a:=c) (b:=d)).2 (by omega)
 have hq:=ZGA F hc hd hz
 obtain ⟨p1,v1⟩:=Zug F hm (Zht (ZoF F a c false).2 (ZoF F b d true).2) e1
 obtain ⟨p2,v2⟩:=Zug F hm (Zht (ZoF F a d false).2 (ZoF F b c false).2) e2
 have la:=Zbi fa
 have lb:=Zbi fb
 have lc:=Zbi fc
 have ld:=Zbi fd
 generalize F.low = L at *
 obtain ⟨x1,y1⟩:=ZAo F la lc false
 obtain ⟨x2,y2⟩:=ZAo F lb ld true
 obtain ⟨x3,y3⟩:=ZAo F la ld false
 obtain ⟨x4,y4⟩:=ZAo F lb lc false
 obtain ⟨i1,l1⟩:=Zgr x1 x2
 obtain ⟨i2,l2⟩:=Zgr x3 x4
 rw [y1,y2] at i1
 rw [y3,y4] at i2
 simp only [Bool.false_eq_true,if_false,if_true] at i1 i2
 have sq:=ZFu F lc ld
 have lsq : LoE (sqD F c d) (L + L):=(Zgr (Zgs lc lc).2 (Zgs ld ld).2).2
 rw [show 2 * L = L + L by omega] at sq
 have P : ∀ {p w : Nat} {X : Dy} {s : Bool},F.vl p = X→LoE X (L + L)→LoE (F.vl w) L→LoE (tm F p w s).1 (L + (L + L))∧iv (tm F p w s).1 (L + (L + L)) = if s then -(iv X (L + L) * iv (F.vl w) L) else iv X (L + L) * iv (F.vl w) L:=fun {p w X s} hp lX lw => by
  obtain ⟨m1,m2⟩:=Zgs lX lw
  rw [show L + L + L = L + (L + L) by omega] at m1 m2
  unfold tm
  rw [hp]
  cases s
  ·exact ⟨m2,m1⟩
  ·exact ⟨Zpm m2,by simp only [if_true]; rw [ZtH,m1]⟩
 refine ⟨⟨p1,p2⟩,?_,?_⟩
 ·obtain ⟨q1,r1⟩:=P (s:=false) v1 l1 lc
  obtain ⟨q2,r2⟩:=P (s:=false) v2 l2 ld
  obtain ⟨i3,l3⟩:=Zgr q1 q2
  refine Zuf F hm ha fa (Zht (ZoF F _ _ _).2 (ZoF F _ _ _).2) (Zzk F c d) hq l3 la lsq ?_ _
  rw [i3,r1,r2,i1,i2,sq]
  simp only [Bool.false_eq_true,if_false]
  generalize iv (F.vl a) L = x
  generalize iv (F.vl b) L = y
  generalize iv (F.vl c) L = z
  generalize iv (F.vl d) L = w
  grind
 ·obtain ⟨q1,r1⟩:=P (s:=false) v2 l2 lc
  obtain ⟨q2,r2⟩:=P (s:=true) v1 l1 ld
  obtain ⟨i3,l3⟩:=Zgr q1 q2
  refine Zuf F hm hb fb (Zht (ZoF F _ _ _).2 (ZoF F _ _ _).2) (Zzk F c d) hq l3 lb lsq ?_ _
  rw [i3,r1,r2,i1,i2,sq]
  simp only [Bool.false_eq_true,if_false,if_true]
  generalize iv (F.vl a) L = x
  generalize iv (F.vl b) L = y
  generalize iv (F.vl c) L = z
  generalize iv (F.vl d) L = w
  grind
def intD (n : Int) : Dy:=mkD (decide (n < 0)) n.natAbs 0
end Go.Cv
namespace Go.Cv
variable {G : Nat→Option (List AV)} {T : Tbl} {g : Nat}
section
variable (b : Nat) (k : IntKind)
end
end Go.Cv
namespace Go.Cv
def Zw (F : Fm) (p : Nat × Nat) : Prop:=p.1 < 2 * F.sg∧p.2 < 2 * F.sg
def zcells : List (Nat × Nat)→List AV
 | [] => []
 | p :: l => .int .u64 (p.1 : Int) :: .int .u64 (p.2 : Int) :: zcells l
end Go.Cv
namespace Go.Cv
theorem Znx {d : Dy} {K : Int} (h : LoE d K) (h0 : d.m≠0) : K≤d.e:=h.resolve_left h0
end Go.Cv
namespace Go.Cv
end Go.Cv
namespace Go.Cv
variable {G : Nat→Option (List AV)} {T : Tbl} {g : Nat}
end Go.Cv
namespace Go.Cv
variable {G : Nat→Option (List AV)} {T : Tbl} {g : Nat}
section
variable {α : Type} (bs L : List α) (v : α)
theorem ga0 : (bs ++ L)[bs.length]? = L[0]?:=by rw [List.getElem?_append_right (Nat.le_refl _),Nat.sub_self]
theorem ga1 : (bs ++ L)[bs.length + 1]? = L[1]?:=by rw [List.getElem?_append_right (Nat.le_add_right ..),Nat.add_sub_cancel_left]
theorem ga2 : (bs ++ L)[bs.length + 2]? = L[2]?:=by rw [List.getElem?_append_right (Nat.le_add_right ..),Nat.add_sub_cancel_left]
theorem ga3 : (bs ++ L)[bs.length + 3]? = L[3]?:=by rw [List.getElem?_append_right (Nat.le_add_right ..),Nat.add_sub_cancel_left]
theorem ga4 : (bs ++ L)[bs.length + 4]? = L[4]?:=by rw [List.getElem?_append_right (Nat.le_add_right ..),Nat.add_sub_cancel_left]
theorem gs0 : (bs ++ L).set bs.length v = bs ++ L.set 0 v:=by rw [List.set_append_right _ _ (Nat.le_refl _),Nat.sub_self]
theorem gs1 : (bs ++ L).set (bs.length + 1) v = bs ++ L.set 1 v:=by rw [List.set_append_right _ _ (Nat.le_add_right ..),Nat.add_sub_cancel_left]
theorem gs2 : (bs ++ L).set (bs.length + 2) v = bs ++ L.set 2 v:=by rw [List.set_append_right _ _ (Nat.le_add_right ..),Nat.add_sub_cancel_left]
theorem gs3 : (bs ++ L).set (bs.length + 3) v = bs ++ L.set 3 v:=by rw [List.set_append_right _ _ (Nat.le_add_right ..),Nat.add_sub_cancel_left]
theorem gs4 : (bs ++ L).set (bs.length + 4) v = bs ++ L.set 4 v:=by rw [List.set_append_right _ _ (Nat.le_add_right ..),Nat.add_sub_cancel_left]
theorem gap (K : List α) : bs ++ L ++ K = bs ++ (L ++ K):=List.append_assoc ..
theorem gal : (bs ++ L).length = bs.length + L.length:=List.length_append
end
theorem gaB {α : Type} : type_of% (And.intro (And.intro (And.intro (@ga0 α) (And.intro (@ga1 α) (@ga2 α))) (And.intro (@ga3 α) (@ga4 α))) (And.intro (And.intro (@gs0 α) (And.intro (@gs1 α) (@gs2 α))) (And.intro (And.intro (@gs3 α) (@gs4 α)) (And.intro (@gap α) (@gal α))))):=And.intro (And.intro (And.intro (@ga0 α) (And.intro (@ga1 α) (@ga2 α))) (And.intro (@ga3 α) (@ga4 α))) (And.intro (And.intro (@gs0 α) (And.intro (@gs1 α) (@gs2 α))) (And.intro (And.intro (@gs3 α) (@gs4 α)) (And.intro (@gap α) (@gal α))))
theorem Zkv : ∀ l : List (Nat × Nat),(zcells l).length = l.length * 2
 | [] => rfl
 | p :: l => by rw [zcells,List.length_cons,List.length_cons,List.length_cons,Zkv l]; omega
def zc (l : List (Nat × Nat)) (i : Nat) : Nat × Nat:=l.getD i (0,0)
theorem ZGS {l : List (Nat × Nat)} {i : Nat} (h : i < l.length) : zc l i = l[i]:=by unfold zc; rw [List.getD_eq_getElem?_getD,List.getElem?_eq_getElem h]; rfl
theorem ZCt {l : List (Nat × Nat)} {i : Nat} (h : i < l.length) : zc l i ∈ l:=by rw [ZGS h]; exact List.getElem_mem h
theorem Zsb {l : List (Nat × Nat)} {i : Nat} (h : i < l.length) : l.drop i = zc l i :: l.drop (i + 1):=by rw [ZGS h]; exact List.drop_eq_getElem_cons h
theorem ZoE : ∀ (l : List (Nat × Nat)) (i : Nat),(zcells l).drop (i * 2) = zcells (l.drop i)
 | l,0 => rfl
 | [],i + 1 => by simp [zcells]
 | p :: l,i + 1 => by
  rw [zcells,List.drop_succ_cons,← ZoE l i,show (i + 1) * 2 = i * 2 + 1 + 1 by omega,List.drop_succ_cons,List.drop_succ_cons]
theorem ZvG {l : List (Nat × Nat)} {i : Nat} (h : i < l.length) : ((zcells l).drop (i * 2)).take 2 = [.int .u64 ((zc l i).1 : Int),.int .u64 ((zc l i).2 : Int)]:=by
 rw [ZoE,Zsb h]; rfl
def W64 (l : List (Nat × Nat)) : Prop:=∀ a ∈ l,a.1 < 18446744073709551616∧a.2 < 18446744073709551616
def Zws (F : Fm) (l : List (Nat × Nat)) : Prop:=∀ a ∈ l,Zw F a
theorem Zla {F : Fm} {a : Nat × Nat} {l : List (Nat × Nat)} : Zws F (a :: l)↔Zw F a∧Zws F l:=List.forall_mem_cons
theorem ZrW {F : Fm} : Zws F []:=fun _ h => by cases h
end Go.Cv
namespace Go.Cv
variable {G : Nat→Option (List AV)} {T : Tbl} {g : Nat}
end Go.Cv
namespace Go.Cv
variable {G : Nat→Option (List AV)} {T : Tbl} {g : Nat}
section
variable (x y z : AV) (k : IntKind)
end
end Go.Cv
namespace Go.Cv
variable {G : Nat→Option (List AV)} {T : Tbl} {g : Nat}
def Tb (d : Dy) (W E : Nat) : Prop:=d.m≠0→(-(E : Int)≤d.e∧d.e + blen d.m≤W)
theorem Tb.mono {d : Dy} {W E W' E' : Nat} (h : Tb d W E) (h1 : W≤W') (h2 : E≤E') : Tb d W' E':=fun h0 => by have:=h h0; omega
theorem ZFt {X r : Nat} (h1 : r * r≤X) (h2 : X < (r + 1) * (r + 1)) : isq X = r:=by
 obtain ⟨k1,k2⟩:=Zls X
 have a : isq X < r + 1:=Nat.lt_of_not_le fun h => absurd (Nat.le_trans (Nat.mul_le_mul h h) k1) (by omega)
 have b : r < isq X + 1:=Nat.lt_of_not_le fun h => absurd (Nat.le_trans (Nat.mul_le_mul h h) h1) (by omega)
 omega
theorem ZGO (a b a' b' : Int) : eqsA false [false,false] (.agg [.int .u64 a,.int .u64 b]) (.agg [.int .u64 a',.int .u64 b']) = some (.bool (decide (a = a'∧b = b'))):=by
 simp [eqsA,kindsA,eqCells,Bool.decide_and]
 all_goals rfl
theorem Zci (F : CallF) (d : Option Nat) (os : List IOper) (e : Env) (h : Heap) (zero : List AV) (ps : List (Nat × Nat × IOpd)) : evOps G F (⟨d,.bslice 1 2 zero ps,none⟩ :: os) e h =
  kBs G F (fillA zero (ps.map fun (o,n,x) => (o,n,opd e x))) (.own h.b.length 0 1 2) d os e h:=by
 have:=ZjR G F d os e h 1 2 zero ps
 rwa [show repA 1 zero = zero by simp [repA]] at this
theorem ZsM {l : List (Nat × Nat)} {i : Nat} {w : List AV} (h : i < l.length) : ((zcells l ++ w).drop (i * 2)).take 2 = [.int .u64 ((zc l i).1 : Int),.int .u64 ((zc l i).2 : Int)]:=by
 rw [List.drop_append_of_le_length (by rw [Zkv]; omega),List.take_append_of_le_length (by rw [List.length_drop,Zkv]; omega),ZvG h]
theorem ZHk {F : Fm} {w : Nat} (hw : w < 2 * F.sg) (h : F.ng w = false) : w % F.sg = w:=by
 have:=ZDx F hw
 rw [h] at this
 unfold Fm.sgn at this
 simpa using this.symm
theorem ZBF {F : Fm} {w : Nat} (hw : w < 2 * F.sg) (h : F.ng w = false) : pl F w = w:=by
 unfold pl; rw [h,ZHk hw h]; rfl
theorem ZzO (n : Nat) : intD (n : Int) = mkD false n 0:=by
 unfold intD; rw [decide_eq_false (by omega),Int.natAbs_natCast]
theorem ZAr {n : Nat} (h : n≤41) (h0 : n≠0) : tz n≤5:=by
 have hs:=(ZcY h0).1
 rcases Nat.lt_or_ge 5 (tz n) with q | q
 ·exfalso
  have h2 : 2 ^ 6≤2 ^ tz n:=Nat.pow_le_pow_right (by decide) q
  have h3 : n / 2 ^ tz n≠0:=fun q0 => by rw [q0,Nat.zero_mul] at hs; exact h0 hs
  have h4 : 1 * 2 ^ tz n≤n / 2 ^ tz n * 2 ^ tz n:=Nat.mul_le_mul_right _ (Nat.pos_of_ne_zero h3)
  rw [Nat.one_mul] at h4
  have h5 : 2 ^ 6≤n:=Nat.le_trans (Nat.le_trans h2 h4) (Nat.le_of_eq hs.symm)
  omega
 ·exact q
theorem Zpx (J : Al G T g) {n : Nat} (h : n≤41) : ∃ z,run G T 272 [.int .i64 (n : Int)] = some (DyA z (intD (n : Int))):=by
 rw [Zac G T J.J.Zpx,ZzO]
 obtain ⟨z1,r1⟩:=ZnZ J (n:=n) (by omega)
 have hb : blen n≤6:=Zae.2 (by rw [show (2 : Nat) ^ 6 = 64 from rfl]; omega)
 have ht : n = 0∨(-16777216≤(0 : Int) + tz n∧(0 : Int) + tz n≤16777216):=by
  by_cases h0 : n = 0
  ·exact Or.inl h0
  ·have:=ZAr h h0
   right; omega
 obtain ⟨z2,r2⟩:=ZbQ J (n:=false) (z:=z1) (a:=n) (e:=0) (Zau (by omega)) ht (by omega)
 refine ⟨z2,?_⟩
 have w1 : (n : Int) % 18446744073709551616 = (n : Int):=by omega
 have w0 : ¬ (n : Int) < 0:=by omega
 generalize mkD false n 0 = d at *
 generalize dl n = l at *
 generalize (n : Int) = m at *
 simp only [DyA,A3] at *
 repeat' (first|simp (maxSteps:=9^7) only [seval,exC,Zhx,w1,w0,r1,r2]|simp (maxSteps:=9^7) (disch:=first|with_reducible assumption|omega) only [dxB]|(simp only [kdB];split)|(simp only [kvB];split))
theorem ZBe {k n i : Nat} (h : i < n) : iaddrV 2 (.own k 0 n 2) (.int .i64 (i : Int)) = some (.ptr k (i * 2)):=by
 rw [iaddrV,if_pos ⟨by omega,by omega,rfl⟩,Int.toNat_natCast,Nat.zero_add]
theorem ZBL {bs : List Blk} {f : List Nat} {k i : Nat} {l : List (Nat × Nat)} {w : List AV} (h : i < l.length) (hb : bs[k]? = some ⟨zcells l ++ w,false⟩) : rdAt G (Heap.mem ⟨bs,f⟩) 2 (.ptr k (i * 2)) = some [.int .u64 ((zc l i).1 : Int),.int .u64 ((zc l i).2 : Int)]:=by
 rw [rdAt,Zod,hb,ZoA,sub,if_pos (by rw [List.length_append,Zkv]; omega),ZsM h]
def kTr (o : Option (Env × Heap)) : Option (Ex × Env × Heap):=o.map fun r => (.norm,r.1,r.2)
theorem ZtM (e : Env) (h : Heap) : kTr (some (e,h)) = some (.norm,e,h):=rfl
theorem ZBS (ops : List IOper) (t : OT) (l : List Nat) (e : Env) (h : Heap) : evL G T (.tree ops t l) e h = kTr (evT G (CF G T) ops (finT l) t e h):=ZzG G T ops t l e h
noncomputable def kTi (F : CallF) (ops : List IOper) (fin : Env→Heap→Option (Env × Heap)) (t : OT) (o : Option IOper) (e : Env) (h : Heap) : Option (Env × Heap):=match o with
 | some o => (evOps G F [o] e h).bind fun r => evT G F ops fin t r.1 r.2
 | none => none
noncomputable def kT (F : CallF) (ops : List IOper) (fin : Env→Heap→Option (Env × Heap)) (t : OT) (o : Option (Env × Heap)) : Option (Env × Heap):=o.bind fun r => evT G F ops fin t r.1 r.2
theorem ZAS (F : CallF) (ops : List IOper) (fin : Env→Heap→Option (Env × Heap)) (i : Nat) (t : OT) (e : Env) (h : Heap) : evT G F ops fin (.op i t) e h = kTi (G:=G) F ops fin t ops[i]? e h:=by
 simp only [evT,kTi]
 cases ops[i]? <;> rfl
theorem ZtL (F : CallF) (ops : List IOper) (fin : Env→Heap→Option (Env × Heap)) (t : OT) (o : IOper) (e : Env) (h : Heap) : kTi (G:=G) F ops fin t (some o) e h = kT (G:=G) F ops fin t (evOps G F [o] e h):=rfl
theorem Zxt (F : CallF) (ops : List IOper) (fin : Env→Heap→Option (Env × Heap)) (t : OT) (e : Env) (h : Heap) : kT (G:=G) F ops fin t (some (e,h)) = evT G F ops fin t e h:=rfl
theorem ZwW (F : CallF) (ops : List IOper) (fin : Env→Heap→Option (Env × Heap)) (a b : OT) (e : Env) (h : Heap) : evT G F ops fin (.alt a b) e h = bothO (evT G F ops fin a e h) (evT G F ops fin b e h):=rfl
theorem Ztt (F : CallF) (ops : List IOper) (l : List Nat) (e : Env) (h : Heap) : evT G F ops (finT l) .done e h = some (keepE l e,h):=rfl
theorem ZoO {α : Type} (x : α) : bothO (some x) (some x) = some x:=by simp [bothO]
theorem ZkI (k : IntKind) (n : Int) (bs : List Nat) : fz1 (.int k n) bs = []:=rfl
theorem ZkH (b : Bool) (bs : List Nat) : fz1 (.bool b) bs = []:=rfl
def fk : Fm→FloatKind
 | .s => .f32
 | .d => .f64
theorem ie_f (F : Fm) : (fk F).format.fractionBits = F.fr∧(fk F).format.leastPlace = F.low∧(fk F).format.binade = 2 ^ F.fr∧(fk F).format.infRung = F.i0∧(fk F).format.signWeight = F.sg:=by cases F <;> decide
theorem ZsL (F : Fm) (n : Bool) (r : Nat) : (fk F).format.word n r = r + F.sgn n:=by
 unfold Ieee.Format.word Fm.sgn
 rw [(ie_f F).2.2.2.2]
 cases n <;> simp <;> omega
def flW (F : Fm) (r : Nat) : AV:=if F.cls r = 5 then .nan (fk F) else .fl (fk F) r
theorem Zzx (neg : Bool) (n : Nat) {k : Nat} (hk : 0 < k) : Ieee.Toward.even.cut neg n k = (rdN 1 neg n false k).1:=by
 obtain ⟨i,rfl⟩ : ∃ i,k = i + 1:=⟨k - 1,by omega⟩
 unfold Ieee.Toward.cut rdN
 simp only [Nat.one_shiftLeft]
 have hlt : n < 2 ^ (n.log2 + 1):=Nat.lt_log2_self
 by_cases hc : i + 1≤n.log2 + 2
 ·rw [Nat.min_eq_left hc]
  congr 1
  have hp:=Nat.two_pow_pos i
  have e1 : n % 2 ^ (i + 1) = n % 2 ^ i + 2 ^ i * (n / 2 ^ i % 2):=by rw [Nat.pow_succ,Nat.mod_mul]
  have e2 : 2 ^ (i + 1) = 2 ^ i * 2:=Nat.pow_succ ..
  have h2 : n / 2 ^ i % 2 < 2:=Nat.mod_lt _ (by decide)
  have h3 : n % 2 ^ i < 2 ^ i:=Nat.mod_lt _ hp
  unfold upB halfN moreN
  rw [if_pos rfl,Nat.add_sub_cancel,e1,e2]
  congr 1
  generalize n / (2 ^ i * 2) = q
  generalize n / 2 ^ i % 2 = h at *
  generalize n % 2 ^ i = r at *
  generalize 2 ^ i = p at *
  rcases (show h = 0∨h = 1 by omega) with rfl | rfl
  ·have g1 : ¬ p * 2 < 2 * (r + p * 0):=by omega
   have g2 : ¬ p * 2 = 2 * (r + p * 0):=by omega
   simp [g1,g2]
   omega
  ·by_cases hr : r = 0
   ·subst hr
    have g1 : ¬ p * 2 < 2 * (0 + p * 1):=by omega
    have g2 : p * 2 = 2 * (0 + p * 1):=by omega
    have g3 : 2 * p = p * 2:=by omega
    have g4 : ¬ p * 2 < 2 * p:=by omega
    by_cases hq : q % 2 = 1 <;> simp [hq,g3]
   ·have g1 : p * 2 < 2 * (r + p * 1):=by omega
    have g3 : p * 2 < 2 * (r + p):=by omega
    simp [g3,hr]
 ·rw [Nat.min_eq_right (by omega)]
  have e1 : 2 ^ (n.log2 + 2) = 2 ^ (n.log2 + 1) * 2:=Nat.pow_succ ..
  have hb : n < 2 ^ i:=Nat.lt_of_lt_of_le hlt (Nat.pow_le_pow_right (by decide) (by omega))
  have hb2 : n < 2 ^ (i + 1):=Nat.lt_trans hb (Nat.pow_lt_pow_right (by decide) (by omega))
  rw [Nat.div_eq_of_lt (show n < 2 ^ (n.log2 + 2) by omega),Nat.mod_eq_of_lt (show n < 2 ^ (n.log2 + 2) by omega),Nat.div_eq_of_lt hb2]
  unfold upB halfN
  rw [if_pos rfl,Nat.add_sub_cancel,Nat.div_eq_of_lt hb]
  have g1 : ¬ 2 ^ (n.log2 + 2) < 2 * n:=by omega
  have g2 : ¬ 2 ^ (n.log2 + 2) = 2 * n:=by omega
  simp [g1,g2]
theorem Zqc (F : Fm) (neg : Bool) {m : Nat} (h0 : m≠0) (e : Int) : (fk F).format.nearest neg m e = (rndW F 1 (mkD neg m e)).1:=by
 obtain ⟨f1,f2,f3,f4,f5⟩:=ie_f F
 have hd : (mkD neg m e).m≠0:=fun q => by
  have:=ZnV (n:=neg) h0 (Int.le_refl e)
  rw [q,Nat.zero_mul] at this
  have:=Nat.mul_pos (Nat.pos_of_ne_zero h0) (Nat.two_pow_pos (e - e).toNat)
  omega
 have hn : (mkD neg m e).n = neg:=Zsp h0 e
 have htop : (mkD neg m e).e + (blen (mkD neg m e).m : Int) = e + blen m:=by
  rw [Zar h0]
  simp only
  have h1:=(ZcY h0).1
  have h2 : m / 2 ^ tz m≠0:=fun q => by rw [q,Nat.zero_mul] at h1; exact h0 h1
  have h3:=Zap h2 (tz m)
  rw [← h1] at h3
  omega
 unfold Ieee.Format.nearest
 rw [if_neg h0,f1,f2,f3,f4,ZsL]
 have hlast : max (e + (m.log2 : Int) - (F.fr : Int)) F.low = F.eOf (e + blen m):=by
  unfold Fm.eOf blen
  rw [if_neg h0]
  congr 1
  push_cast
  omega
 rw [hlast,Zyj F 1 hd,hn,Zqj F hd,hn,htop]
 have hr : rnd 1 neg (mkD neg m e).m (mkD neg m e).e (F.eOf (e + blen m)) = rnd 1 neg m e (F.eOf (e + blen m)):=by
  have hle : e≤(mkD neg m e).e:=by rw [Zar h0]; simp only; omega
  rw [Zyk 1 neg (mkD neg m e).m (L:=min e (F.eOf (e + blen m) - 1)) (by omega) (by omega),Zyk 1 neg m (L:=min e (F.eOf (e + blen m) - 1)) (by omega) (by omega),ZnV h0 (by omega)]
 rw [hr]
 have hk : Ieee.Toward.even.cut neg (m <<< (e - F.eOf (e + blen m)).toNat) (F.eOf (e + blen m) - e).toNat = (rnd 1 neg m e (F.eOf (e + blen m))).1:=by
  generalize F.eOf (e + blen m) = u
  unfold rnd
  by_cases hu : u≤e
  ·rw [if_pos hu,show (u - e).toNat = 0 by omega,Nat.shiftLeft_eq]
   unfold Ieee.Toward.cut
   simp [Nat.mod_one]
  ·rw [if_neg hu,show (e - u).toNat = 0 by omega,Nat.shiftLeft_zero]
   exact Zzx neg m (by omega)
 rw [hk]
 have ho : ovs F 1 neg = F.i0:=by unfold ovs; simp
 rw [ho]
 unfold Fm.enc
 split
 ·rw [Nat.min_eq_right (by assumption)]
 ·rw [Nat.min_eq_left (by omega)]
theorem not5 (F : Fm) {s : Nat} (n : Bool) (h : s≤F.i0) : F.cls (s + F.sgn n)≠5:=by
 have hi:=ZcM F
 have hm:=(Zdt (F:=F) (s:=s) n (by omega)).1
 have h2 : F.i0 = F.most * 2 ^ F.fr:=rfl
 have hp:=Nat.two_pow_pos F.fr
 unfold Fm.cls Fm.ex Fm.fc
 rw [hm]
 intro hc
 by_cases h0 : s / 2 ^ F.fr = 0
 ·rw [if_pos h0] at hc
  split at hc <;> revert hc <;> decide
 ·rw [if_neg h0] at hc
  by_cases h1 : s / 2 ^ F.fr < F.most
  ·rw [if_pos h1] at hc; exact absurd hc (by decide)
  ·rw [if_neg h1] at hc
   have e:=Nat.div_add_mod s (2 ^ F.fr)
   have h3 : F.most * 2 ^ F.fr≤s / 2 ^ F.fr * 2 ^ F.fr:=Nat.mul_le_mul_right _ (by omega)
   rw [Nat.mul_comm (2 ^ F.fr)] at e
   have h4 : s % 2 ^ F.fr = 0:=by omega
   rw [if_pos h4] at hc; exact absurd hc (by decide)
theorem rnd5 (F : Fm) {m : Int} (m1 : 1≤m) (m2 : m≤5) (d : Dy) : F.cls (rndW F m d).1≠5:=by
 obtain ⟨s,n,h1,h2,_⟩:=Zqk F m1 m2 d
 rw [h1]; exact not5 F n h2
theorem sum5 (F : Fm) {m : Int} (m1 : 1≤m) (m2 : m≤5) (d : Dy) : F.cls (sumW F m d).1≠5:=by
 unfold sumW
 split
 ·rw [(ZjO F _).2.2.1]; decide
 ·exact rnd5 F m1 m2 d
theorem nan5 (F : Fm) : F.cls F.nan = 5:=by cases F <;> decide
theorem ZbI (F : Fm) : flW F F.nan = .nan (fk F):=by unfold flW; rw [if_pos (nan5 F)]
theorem Zcp {F : Fm} {r : Nat} (h : F.cls r≠5) : flW F r = .fl (fk F) r:=if_neg h
theorem ZGq (F : Fm) {w : Nat} (hw : w < 2 * F.sg) : (w / (fk F).format.signWeight % 2 == 1) = F.ng w:=by
 rw [(ie_f F).2.2.2.2]
 have hi:=ZcM F
 unfold Fm.ng
 by_cases h : F.sg≤w
 ·have : w / F.sg = 1:=Nat.div_eq_of_lt_le (by omega) (by omega)
  rw [this,decide_eq_true h]; rfl
 ·rw [Nat.div_eq_of_lt (by omega),decide_eq_false h]; rfl
theorem ZmV (F : Fm) {w : Nat} (hw : w < 2 * F.sg) (hf : F.fin w) : ∃ m p,(fk F).format.read w = .number (F.ng w) m p∧F.vl w = mkD (F.ng w) m p:=by
 obtain ⟨f1,f2,f3,f4,f5⟩:=ie_f F
 have hp:=Nat.two_pow_pos F.fr
 have h2 : F.i0 = F.most * 2 ^ F.fr:=rfl
 have hi:=(ZGP F hw (by have:=ZaE.1 hf; omega)).2.1 hf
 have hs:=ZGq F hw
 unfold Ieee.Format.read
 simp only [hs]
 rw [f5,f3,f4,f2]
 rw [ZcV hf]
 unfold Fm.val Fm.ex Fm.fc
 by_cases h0 : w % F.sg < 2 ^ F.fr
 ·rw [if_pos h0,if_pos (Nat.div_eq_of_lt h0),Nat.mod_eq_of_lt h0]
  exact ⟨_,_,rfl,rfl⟩
 ·have h1 : 1≤w % F.sg / 2 ^ F.fr:=(Nat.le_div_iff_mul_le hp).2 (by omega)
  rw [if_neg h0,if_pos hi,if_neg (by omega)]
  refine ⟨_,_,rfl,?_⟩
  congr 1
  omega
theorem Zul (F : Fm) {w : Nat} (hw : w < 2 * F.sg) (h : F.cls w = 4) : (fk F).format.read w = .infinity (F.ng w):=by
 obtain ⟨f1,f2,f3,f4,f5⟩:=ie_f F
 have hi:=ZcM F
 have hs:=ZGq F hw
 have hp:=Nat.two_pow_pos F.fr
 have he:=ZwE hw h
 have hm : w % F.sg = F.i0:=by
  have h0 : ∀ b,F.inf b = F.i0 + F.sgn b:=by intro b; cases F <;> cases b <;> decide
  have:=h0 (F.ng w)
  have h2:=(Zdt (F:=F) (s:=F.i0) (F.ng w) (by omega)).1
  rw [← this,← he] at h2
  exact h2
 have hb : 2 ^ F.fr≤F.i0:=by cases F <;> decide
 unfold Ieee.Format.read
 simp only [hs]
 rw [f5,f3,f4,hm,if_neg (by omega),if_neg (by omega),if_pos rfl]
theorem Zrq (F : Fm) {w : Nat} (hw : w < 2 * F.sg) (h : F.cls w = 5) : ∃ n t,(fk F).format.read w = .nan n t:=by
 obtain ⟨f1,f2,f3,f4,f5⟩:=ie_f F
 have hi:=ZcM F
 have hp:=Nat.two_pow_pos F.fr
 have hb : 2 ^ F.fr≤F.i0:=by cases F <;> decide
 have h2 : F.i0 = F.most * 2 ^ F.fr:=rfl
 have hm : F.i0 < w % F.sg:=by
  rcases Nat.lt_or_ge F.i0 (w % F.sg) with q | q
  ·exact q
  ·have:=not5 F (F.ng w) q
   rw [← ZDx F hw] at this
   exact absurd h this
 unfold Ieee.Format.read
 simp only
 rw [f5,f3,f4,if_neg (by omega),if_neg (by omega),if_neg (by omega)]
 exact ⟨_,_,rfl⟩
theorem cls3 (F : Fm) (w : Nat) : F.cls w = 5∨F.cls w = 4∨F.fin w:=by
 have:=Zgp F w
 rw [ZaE]; omega
theorem ZhX (F : Fm) (n : Bool) (m : Nat) (e : Int) : (fk F).format.write (.number n m e) = if m = 0 then F.sgn n else (rndW F 1 (mkD n m e)).1:=by
 show (fk F).format.nearest n m e = _
 by_cases h : m = 0
 ·rw [if_pos h,h]
  unfold Ieee.Format.nearest
  rw [if_pos rfl,ZsL,Nat.zero_add]
 ·rw [if_neg h]; exact Zqc F n h e
theorem Zej (F : Fm) (n : Bool) : (fk F).format.write (.infinity n) = F.inf n:=by
 show (fk F).format.word n (fk F).format.infRung = _
 rw [ZsL,(ie_f F).2.2.2.1]
 cases F <;> cases n <;> decide
theorem ZrC (n : Bool) (m : Nat) (e L : Int) (h : L≤e) : Ieee.signed n m (e - L).toNat = iv (mkD n m e) L:=by
 rw [Zhr h]
 unfold Ieee.signed
 rw [Nat.shiftLeft_eq]
 cases n <;> simp
theorem inf5 (F : Fm) (n : Bool) : F.cls (F.inf n)≠5:=by rw [ZrZ]; decide
theorem sgn5 (F : Fm) (n : Bool) : F.cls (F.sgn n)≠5:=by rw [(ZjO F n).2.2.1]; decide
theorem ZDS (F : Fm) (s t : Bool) (m n : Nat) (i j : Int) : ∃ q,(Ieee.Datum.sum (.number s m i) (.number t n j)).map (fk F).format.write = some q ∧
  ((iv (mkD s m i) (min i j) + iv (mkD t n j) (min i j) = 0∧q = F.sgn (s && t))∨(iv (mkD s m i) (min i j) + iv (mkD t n j) (min i j)≠0∧q = (rndW F 1 (addD (mkD s m i) (mkD t n j))).1)):=by
 have e1:=ZrC s m i (min i j) (by omega)
 have e2:=ZrC t n j (min i j) (by omega)
 refine ⟨_,rfl,?_⟩
 rw [ZhX,e1,e2]
 obtain ⟨a1,a2⟩:=Zgr (a:=mkD s m i) (b:=mkD t n j) (L:=min i j) (ZcU (by omega)) (ZcU (by omega))
 generalize iv (mkD s m i) (min i j) = x at *
 generalize iv (mkD t n j) (min i j) = y at *
 by_cases h0 : x + y = 0
 ·left
  rw [h0]
  simp
 ·right
  refine ⟨h0,?_⟩
  rw [if_neg (by omega),if_neg h0]
  congr 2
  refine Zrl (L:=min i j) (ZkY _ _ _) (Zht (ZkY _ _ _) (ZkY _ _ _)) (ZcU (Int.le_refl _)) a2 ?_
  rw [Zhr (Int.le_refl _),a1,Int.sub_self,show ((0 : Int)).toNat = 0 from rfl,Nat.pow_zero,Nat.mul_one]
  by_cases hx : x + y < 0
  ·rw [decide_eq_true hx]; simp; omega
  ·rw [decide_eq_false hx]; simp; omega
theorem Zgq {F : Fm} {w : Nat} (h : F.fin w) : F.cls w≠5∧F.cls w≠4:=by have:=ZaE.1 h; omega
theorem Zly {n : Bool} {m : Nat} {e : Int} : (mkD n m e).m = 0↔m = 0:=by
 by_cases h : m = 0
 ·subst h; rw [Zca]
 ·constructor
  ·intro q
   have:=ZnV (n:=n) h (Int.le_refl e)
   rw [q,Nat.zero_mul] at this
   have:=Nat.mul_pos (Nat.pos_of_ne_zero h) (Nat.two_pow_pos (e - e).toNat)
   omega
  ·intro q; exact absurd q h
theorem ZyP (F : Fm) {a b : Nat} (ha : a < 2 * F.sg) (hb : b < 2 * F.sg) (t : Bool) (db : Dy) (D : Ieee.Datum)
  (hD : (F.cls b = 5∧∃ n f,D = .nan n f)∨(F.cls b = 4∧D = .infinity t)∨(F.fin b∧∃ n j,D = .number t n j∧db = mkD t n j∧(F.cls b = 1↔n = 0))) :
  flR (fk F) ((((fk F).format.read a).sum D).map (fk F).format.write) = flW F (addP F 1 (F.cls a) (F.ng a) (F.vl a) (F.cls b) t db).1:=by
 unfold addP
 rcases cls3 F a with ca | ca | ca
 ·obtain ⟨n,f,e⟩:=Zrq F ha ca
  rw [e,if_pos (Or.inl ca),ZbI]; rfl
 ·rw [Zul F ha ca]
  rcases hD with ⟨cb,n,f,rfl⟩ | ⟨cb,rfl⟩ | ⟨cb,n,j,rfl,_⟩
  ·rw [if_pos (Or.inr cb),ZbI]; rfl
  ·rw [if_neg (by omega)]
   by_cases h : F.ng a = t
   ·rw [if_neg (fun q => q.2.2 h),if_pos ca,Zcp (inf5 F _),h]
    simp [Ieee.Datum.sum,Zej,flR]
   ·rw [if_pos ⟨ca,cb,h⟩,ZbI]
    simp [Ieee.Datum.sum,h,flR]
  ·have:=Zgq cb
   rw [if_neg (by omega),if_neg (fun q => this.2 q.2.1),if_pos ca,Zcp (inf5 F _)]
   simp [Ieee.Datum.sum,Zej,flR]
 ·obtain ⟨m,i,e,ev⟩:=ZmV F ha ca
  have fa:=Zgq ca
  rw [e]
  rcases hD with ⟨cb,n,f,rfl⟩ | ⟨cb,rfl⟩ | ⟨cb,n,j,rfl,rfl,z2⟩
  ·rw [if_pos (Or.inr cb),ZbI]; rfl
  ·rw [if_neg (by omega),if_neg (fun q => fa.2 q.1),if_neg fa.2,if_pos cb,Zcp (inf5 F _)]
   simp [Ieee.Datum.sum,Zej,flR]
  ·have fb:=Zgq cb
   rw [if_neg (by omega),if_neg (fun q => fa.2 q.1),if_neg fa.2,if_neg fb.2]
   obtain ⟨q,hq,hc⟩:=ZDS F (F.ng a) t m n i j
   rw [hq,ev]
   have la : LoE (mkD (F.ng a) m i) (min i j):=ZcU (by omega)
   have lb : LoE (mkD t n j) (min i j):=ZcU (by omega)
   obtain ⟨a1,a2⟩:=Zgr la lb
   have z1 : (F.cls a = 1)↔m = 0:=by rw [Zke ha ca,ev,Zly]
   have x0 : m = 0→iv (mkD (F.ng a) m i) (min i j) = 0:=fun q => ZaY (Zly.2 q) _
   have y0 : n = 0→iv (mkD t n j) (min i j) = 0:=fun q => ZaY (Zly.2 q) _
   have nz : ∀ {d : Dy} {L : Int},d.m≠0→iv d L≠0:=fun {d L} h q => by
    have hp:=Nat.mul_pos (Nat.pos_of_ne_zero h) (Nat.two_pow_pos (d.e - L).toNat)
    rcases ZpP d L with ⟨r,_⟩ | ⟨r,_⟩ <;> rw [r] at q <;> omega
   have sx : F.ng a = true→iv (mkD (F.ng a) m i) (min i j)≤0:=fun q => by
    rw [Zhr (by omega),q]; simp only [if_true,Int.neg_mul,Int.one_mul]; omega
   have sy : t = true→iv (mkD t n j) (min i j)≤0:=fun q => by
    rw [Zhr (by omega),q]; simp only [if_true,Int.neg_mul,Int.one_mul]; omega
   by_cases hz : F.cls a = 1∧F.cls b = 1∧F.ng a = t
   ·rw [if_pos hz,Zcp (sgn5 F _)]
    rcases hc with ⟨_,hq'⟩ | ⟨h1,_⟩
    ·rw [hq',hz.2.2]; simp [flR]
    ·exact absurd (by rw [x0 (z1.1 hz.1),y0 (z2.1 hz.2.1)]; rfl) h1
   ·rw [if_neg hz,Zcp (sum5 F (by decide) (by decide) _)]
    unfold sumW
    rcases hc with ⟨h0,hq'⟩ | ⟨h1,hq'⟩
    ·have hm : (addD (mkD (F.ng a) m i) (mkD t n j)).m = 0:=Classical.byContradiction fun q => nz q (by rw [a1]; exact h0)
     rw [if_pos hm,hq']
     have : (F.ng a && t) = false:=by
      cases hs : F.ng a with
      | false => rfl
      | true =>
       cases ht : t with
       | false => rfl
       | true =>
        exfalso
        have h1:=sx hs
        have h2:=sy ht
        have hx : m = 0:=Classical.byContradiction fun q => nz (fun r => q (Zly.1 r)) (show iv (mkD (F.ng a) m i) (min i j) = 0 by omega)
        have hy : n = 0:=Classical.byContradiction fun q => nz (fun r => q (Zly.1 r)) (show iv (mkD t n j) (min i j) = 0 by omega)
        exact hz ⟨z1.2 hx,z2.2 hy,by rw [hs,ht]⟩
     rw [this]
     simp [flR]
    ·have hm : (addD (mkD (F.ng a) m i) (mkD t n j)).m≠0:=fun q => h1 (by rw [← a1,ZaY q])
     rw [if_neg hm,hq']
     simp [flR]
theorem Znr (F : Fm) {b : Nat} (hb : b < 2 * F.sg) : (F.cls b = 5∧∃ n f,(fk F).format.read b = .nan n f)∨(F.cls b = 4∧(fk F).format.read b = .infinity (F.ng b))∨(F.fin b∧∃ n j,(fk F).format.read b = .number (F.ng b) n j∧F.vl b = mkD (F.ng b) n j∧(F.cls b = 1↔n = 0)):=by
 rcases cls3 F b with c | c | c
 ·exact .inl ⟨c,Zrq F hb c⟩
 ·exact .inr (.inl ⟨c,Zul F hb c⟩)
 ·obtain ⟨n,j,e,ev⟩:=ZmV F hb c
  exact .inr (.inr ⟨c,n,j,e,ev,by rw [Zke hb c,ev,Zly]⟩)
theorem ZEs (F : Fm) {a b : Nat} (ha : a < 2 * F.sg) (hb : b < 2 * F.sg) : flR (fk F) ((fk F).format.add a b) = flW F (addW F 1 a b).1 :=
 ZyP F ha hb (F.ng b) (F.vl b) _ (Znr F hb)
theorem ZFV (n : Bool) (m : Nat) (e : Int) : negD (mkD n m e) = mkD (!n) m e:=by
 by_cases h : m = 0
 ·subst h; rw [Zca,Zca]; rfl
 ·unfold negD
  rw [if_neg (fun r => h (Zly.1 r)),Zar h,Zar h]
theorem ZGG (F : Fm) {a b : Nat} (ha : a < 2 * F.sg) (hb : b < 2 * F.sg) : flR (fk F) ((fk F).format.sub a b) = flW F (subW F 1 a b).1:=by
 refine ZyP F ha hb (!F.ng b) (negD (F.vl b)) _ ?_
 rcases Znr F hb with ⟨c,n,f,e⟩ | ⟨c,e⟩ | ⟨c,n,j,e,ev,z⟩
 ·rw [e]; exact .inl ⟨c,_,_,rfl⟩
 ·rw [e]; exact .inr (.inl ⟨c,rfl⟩)
 ·rw [e,ev,ZFV]; exact .inr (.inr ⟨c,n,j,rfl,rfl,z⟩)
theorem ZFS (F : Fm) {a b : Nat} (ha : a < 2 * F.sg) (hb : b < 2 * F.sg) : flR (fk F) ((fk F).format.mul a b) = flW F (mulW2 F 1 a b).1:=by
 show flR (fk F) ((((fk F).format.read a).product ((fk F).format.read b)).map (fk F).format.write) = _
 unfold mulW2 mulP
 rcases Znr F ha with ⟨ca,n,f,e⟩ | ⟨ca,e⟩ | ⟨ca,m,i,e,ev,z1⟩ <;> rcases Znr F hb with ⟨cb,n',f',e'⟩ | ⟨cb,e'⟩ | ⟨cb,m',i',e',ev',z2⟩ <;> rw [e,e']
 ·rw [if_pos (Or.inl ca),ZbI]; rfl
 ·rw [if_pos (Or.inl ca),ZbI]; rfl
 ·rw [if_pos (Or.inl ca),ZbI]; rfl
 ·rw [if_pos (Or.inr cb),ZbI]; rfl
 ·rw [if_neg (by omega),if_neg (by omega),if_pos (Or.inl ca),Zcp (inf5 F _)]
  simp [Ieee.Datum.product,Zej,flR]
 ·have fb:=Zgq cb
  rw [if_neg (by omega)]
  by_cases h0 : m' = 0
  ·rw [if_pos ⟨Or.inl ca,Or.inr (z2.2 h0)⟩,ZbI]
   simp [Ieee.Datum.product,h0,flR]
  ·have : F.cls b≠1:=fun q => h0 (z2.1 q)
   rw [if_neg (by omega),if_pos (Or.inl ca),Zcp (inf5 F _)]
   simp [Ieee.Datum.product,h0,Zej,flR]
 ·rw [if_pos (Or.inr cb),ZbI]; rfl
 ·have fa:=Zgq ca
  rw [if_neg (by omega)]
  by_cases h0 : m = 0
  ·rw [if_pos ⟨Or.inr cb,Or.inl (z1.2 h0)⟩,ZbI]
   simp [Ieee.Datum.product,h0,flR]
  ·have : F.cls a≠1:=fun q => h0 (z1.1 q)
   rw [if_neg (by omega),if_pos (Or.inr cb),Zcp (inf5 F _)]
   simp [Ieee.Datum.product,h0,Zej,flR]
   cases F.ng a <;> cases F.ng b <;> rfl
 ·have fa:=Zgq ca
  have fb:=Zgq cb
  rw [if_neg (by omega),if_neg (by omega),if_neg (by omega)]
  have hp : flR (fk F) ((Ieee.Datum.product (.number (F.ng a) m i) (.number (F.ng b) m' i')).map (fk F).format.write) = .fl (fk F) (if m * m' = 0 then F.sgn (F.ng a ^^ F.ng b) else (rndW F 1 (mkD (F.ng a ^^ F.ng b) (m * m') (i + i'))).1):=by
   rw [← ZhX]; rfl
  rw [hp]
  have hx : (F.ng a ^^ F.ng b) = (F.ng a != F.ng b):=by cases F.ng a <;> cases F.ng b <;> rfl
  by_cases h0 : m * m' = 0
  ·have hc : F.cls a = 1∨F.cls b = 1:=by
    rcases Nat.mul_eq_zero.1 h0 with q | q
    ·exact Or.inl (z1.2 q)
    ·exact Or.inr (z2.2 q)
   rw [if_pos h0,if_pos hc,Zcp (sgn5 F _),hx]
  ·have hm : m≠0:=fun q => h0 (by rw [q,Nat.zero_mul])
   have hm' : m'≠0:=fun q => h0 (by rw [q,Nat.mul_zero])
   have hc : ¬ (F.cls a = 1∨F.cls b = 1):=fun q => q.elim (fun r => hm (z1.1 r)) (fun r => hm' (z2.1 r))
   rw [if_neg h0,if_neg hc,Zcp (sum5 F (by decide) (by decide) _),ev,ev',hx]
   have e3 : mkD (F.ng a != F.ng b) (m * m') (i + i') = mulD (mkD (F.ng a) m i) (mkD (F.ng b) m' i'):=by
    obtain ⟨a1,a2⟩:=Zgs (a:=mkD (F.ng a) m i) (b:=mkD (F.ng b) m' i') (K:=i) (L:=i') (ZcU (Int.le_refl _)) (ZcU (Int.le_refl _))
    refine Zrl (L:=i + i') (ZkY _ _ _) (Zcj _ _) (ZcU (Int.le_refl _)) a2 ?_
    rw [a1,Zhr (Int.le_refl _),Zhr (Int.le_refl _),Zhr (Int.le_refl _),Int.sub_self,Int.sub_self,Int.sub_self,show ((0 : Int)).toNat = 0 from rfl,Nat.pow_zero,Nat.mul_one,Nat.mul_one,Nat.mul_one]
    push_cast
    generalize (m : Int) = x
    generalize (m' : Int) = y
    cases F.ng a <;> cases F.ng b <;> simp [Int.mul_neg,Int.neg_mul]
   rw [e3]
   unfold sumW
   have hm0 : (mulD (mkD (F.ng a) m i) (mkD (F.ng b) m' i')).m≠0:=by rw [← e3]; exact fun r => h0 (Zly.1 r)
   rw [if_neg hm0]
end Go.Cv
