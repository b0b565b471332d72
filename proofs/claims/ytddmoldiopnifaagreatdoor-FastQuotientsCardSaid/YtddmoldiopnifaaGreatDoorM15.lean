/-
 A part of the proof of the statements of this seat (texts that the law's own text leans on): no condition.
-/
import Derived.Test.YtddmoldiopnifaaGreatDoorM14
import Derived.Test.YtddmoldiopnifaaGreatDoorM7
set_option linter.unusedVariables false
set_option linter.unusedSimpArgs false
namespace Go.Cv
variable {G : Nat→Option (List AV)} {T : Tbl} {g : Nat}
theorem ZnV (b : Nat) (k : IntKind) : iaddrAV 2 2 (.ptr b 0) (.int k 0) = some (.ptr b 0):=rfl
theorem ZnW (b : Nat) (k : IntKind) : iaddrAV 2 2 (.ptr b 0) (.int k 1) = some (.ptr b 2):=rfl
theorem ZFl (b : Nat) (k : IntKind) : iaddrAV 2 1 (.ptr b 0) (.int k 0) = some (.ptr b 0):=rfl
theorem ZFm (b : Nat) (k : IntKind) : iaddrAV 2 1 (.ptr b 0) (.int k 1) = some (.ptr b 1):=rfl
theorem ZFu (a b c d : AV) (k : IntKind) : indexV true 2 2 (.agg [a,b,c,d]) (.int k 0) = some (.agg [a,b]):=rfl
theorem ZFv (a b c d : AV) (k : IntKind) : indexV true 2 2 (.agg [a,b,c,d]) (.int k 1) = some (.agg [c,d]):=rfl
def sideA (p : Int × Bool) : AV:=.agg [.int .i64 p.1,.bool p.2]
def boxA (p q : Int × Bool) : AV:=.agg [.int .i64 p.1,.bool p.2,.int .i64 q.1,.bool q.2]
theorem Zbh (J : Al G T g) {p q : Int × Bool} (hp : SdC p) (hq : SdC q) : run G T 308 [sideA p,sideA q] = some (sideA (sT p q)):=by
 rw [Zab G T J.J.Zbh]
 have w : IntKind.i64.wrap (p.1 * q.1) = p.1 * q.1:=Zaf (by rcases hp with rfl | rfl | rfl | rfl <;> rcases hq with rfl | rfl | rfl | rfl <;> decide)
 obtain ⟨n,s⟩:=p
 obtain ⟨k,t⟩:=q
 have hne : (s != t) = !decide (s = t):=by cases s <;> cases t <;> rfl
 simp only [sideA,sT,hne] at *
 repeat' (first|simp (maxSteps:=9^7) only [seval,exC,ZbO,w]|simp (maxSteps:=9^7) (disch:=first|with_reducible assumption|omega) only [dxB]|(simp only [kdB];split)|(simp only [kvB];split))
theorem Zcv (J : Al G T g) {p : Int × Bool} (hp : SdC p) : run G T 302 [sideA p] = some (sideA (sM p)):=by
 rw [Zab G T J.J.Zcv]
 rcases hp with rfl | rfl | rfl | rfl <;> (
  have w1 : IntKind.i64.wrap (- -1) = 1:=rfl
  have w2 : IntKind.i64.wrap (-1) = -1:=rfl
  have w3 : IntKind.i64.wrap 0 = 0:=rfl
  have w4 : IntKind.i64.wrap 1 = 1:=rfl
  have w5 : IntKind.i64.wrap (-0) = 0:=rfl
  simp only [sideA,sM,Int.neg_zero,Int.reduceNeg,Int.neg_neg,Bool.not_true,Bool.not_false] at *
  repeat' (first|simp (maxSteps:=9^7) only [seval,exC,ZbN,w1,w2,w3,w4,w5]|simp (maxSteps:=9^7) (disch:=first|with_reducible assumption|omega) only [dxB]|(simp only [kdB];split)|(simp only [kvB];split)))
theorem ZcV (J : Al G T g) {md : Int} {p q : Int × Bool} (hp : SdC p) (hq : SdC q) : run G T 309 [sideA p,sideA q,.int .u8 md] = some (sideA (sP md p q)):=by
 rw [Zab G T J.J.ZcV]
 have w : IntKind.i64.wrap (p.1 + q.1) = p.1 + q.1:=Zaf (by rcases hp with rfl | rfl | rfl | rfl <;> rcases hq with rfl | rfl | rfl | rfl <;> decide)
 unfold sP
 obtain ⟨n,s⟩:=p
 obtain ⟨k,t⟩:=q
 simp only [sideA] at *
 by_cases h0 : n + k = 0
 ·have h0' : ¬ n + k≠0:=fun h => h h0
  rw [if_neg h0']
  by_cases h1 : n = 0
  ·by_cases h2 : s = t
   ·rw [if_pos ⟨h1,h2⟩]
    subst h2
    rw [h0] at w
    repeat' (first|simp (maxSteps:=9^7) only [seval,exC,ZaI,w,h0,h1]|simp (maxSteps:=9^7) (disch:=first|with_reducible assumption|omega) only [dxB]|(simp only [kdB];split)|(simp only [kvB];split))
   ·rw [if_neg (fun h => h2 h.2)]
    repeat' (first|simp (maxSteps:=9^7) only [seval,exC,ZaI,w,h0,h1,h2]|simp (maxSteps:=9^7) (disch:=first|with_reducible assumption|omega) only [dxB]|(simp only [kdB];split)|(simp only [kvB];split))
  ·rw [if_neg (fun h => h1 h.1)]
   repeat' (first|simp (maxSteps:=9^7) only [seval,exC,ZaI,w,h0,h1]|simp (maxSteps:=9^7) (disch:=first|with_reducible assumption|omega) only [dxB]|(simp only [kdB];split)|(simp only [kvB];split))
 ·rw [if_pos h0]
  repeat' (first|simp (maxSteps:=9^7) only [seval,exC,ZaI,w,h0]|simp (maxSteps:=9^7) (disch:=first|with_reducible assumption|omega) only [dxB]|(simp only [kdB];split)|(simp only [kvB];split))
theorem Zfp (J : Al G T g) (F : Fm) {w : Nat} {inf : Bool} (hw : w < 2 * F.sg) : run G T 307 [.int .u8 F.u,.int .u64 (w : Int),.bool inf] = some (sideA (sd F w inf)):=by
 rw [Zab G T J.J.Zfp]
 have h1:=Zir J F hw
 have h2:=ZeW J F hw
 unfold sd
 generalize F.cls w = c at *
 generalize F.ng w = n at *
 generalize F.ex w = x at *
 generalize F.fc w = y at *
 simp only [fldA,sideA] at *
 by_cases h5 : c = 5
 ·subst h5
  rw [if_pos rfl]
  cases inf <;> repeat' (first|simp (maxSteps:=9^7) only [seval,exC,ZaT,h1,h2]|simp (maxSteps:=9^7) (disch:=first|with_reducible assumption|omega) only [dxB]|(simp only [kdB];split)|(simp only [kvB];split))
 ·rw [if_neg h5]
  cases inf
  ·simp only [Bool.false_eq_true,if_false]
   by_cases k : c = 1
   ·rw [if_neg (fun h => h k)]
    repeat' (first|simp (maxSteps:=9^7) only [seval,exC,ZaT,h1,h2,h5,k]|simp (maxSteps:=9^7) (disch:=first|with_reducible assumption|omega) only [dxB]|(simp only [kdB];split)|(simp only [kvB];split))
   ·rw [if_pos k]
    cases n <;> repeat' (first|simp (maxSteps:=9^7) only [seval,exC,ZaT,h1,h2,h5,k]|simp (maxSteps:=9^7) (disch:=first|with_reducible assumption|omega) only [dxB]|(simp only [kdB];split)|(simp only [kvB];split))
  ·simp only [if_true]
   by_cases k : c = 4
   ·rw [if_pos k]
    cases n <;> repeat' (first|simp (maxSteps:=9^7) only [seval,exC,ZaT,h1,h2,h5,k]|simp (maxSteps:=9^7) (disch:=first|with_reducible assumption|omega) only [dxB]|(simp only [kdB];split)|(simp only [kvB];split))
   ·rw [if_neg k]
    repeat' (first|simp (maxSteps:=9^7) only [seval,exC,ZaT,h1,h2,h5,k]|simp (maxSteps:=9^7) (disch:=first|with_reducible assumption|omega) only [dxB]|(simp only [kdB];split)|(simp only [kvB];split))
theorem ZcT (J : Al G T g) (F : Fm) {a b : Nat} {c : Int} (ha : a < 2 * F.sg) (hb : b < 2 * F.sg) : run G T 291 [.int .u8 F.u,zA a b,.int .u8 c] = some (boxA (sd F a (decide (c = 3))) (sd F b (decide (c = 3)))):=by
 rw [Zab G T J.J.ZcT]
 have h1:=Zfp J F (inf:=decide (c = 3)) ha
 have h2:=Zfp J F (inf:=decide (c = 3)) hb
 generalize sd F a (decide (c = 3)) = p at *
 generalize sd F b (decide (c = 3)) = q at *
 simp only [zA,sideA,boxA] at *
 repeat' (first|simp (maxSteps:=9^7) only [seval,exC,Zen,h1,h2]|simp (maxSteps:=9^7) (disch:=first|with_reducible assumption|omega) only [dxB]|(simp only [kdB];split)|(simp only [kvB];split))
theorem ZcU (J : Al G T g) {md : Int} {p q r s : Int × Bool} (hp : SdC p) (hq : SdC q) (hr : SdC r) (hs : SdC s) :
  run G T 292 [boxA p q,boxA r s,.int .u8 md] = some (boxA (bxT md p q r s).1 (bxT md p q r s).2):=by
 rw [Zab G T J.J.ZcU]
 have h1:=Zbh J hp hr
 have h2:=Zbh J hq hs
 have h3:=Zcv J (sT_c hq hs)
 have h4:=ZcV J (md:=md) (sT_c hp hr) (sM_c (sT_c hq hs))
 have h5:=Zbh J hp hs
 have h6:=Zbh J hq hr
 have h7:=ZcV J (md:=md) (sT_c hp hs) (sT_c hq hr)
 unfold bxT
 generalize sP md (sT p r) (sM (sT q s)) = x at *
 generalize sP md (sT p s) (sT q r) = y at *
 generalize sM (sT q s) = z at *
 generalize sT p r = t1 at *
 generalize sT q s = t2 at *
 generalize sT p s = t3 at *
 generalize sT q r = t4 at *
 simp only [sideA,boxA] at *
 repeat' (first|simp (maxSteps:=9^7) only [seval,exC,Zcb,ZnV,ZnW,h1,h2,h3,h4,h5,h6,h7]|simp (maxSteps:=9^7) (disch:=first|with_reducible assumption|omega) only [dxB]|(simp only [kdB];split)|(simp only [kvB];split))
def sideW (F : Fm) (size : Nat) (p : Int × Bool) : Nat:=if p.2 then F.min (if p.1≠0 then size else 0) else if p.1≠0 then size else 0
theorem ZCU (e : Env) (h : Heap) : evL G T Zco e h = kS G T (evL G T Zcn (keepE [1,2,6,7,10,11] e) h) Zco:=Zad G T rfl e h
set_option maxHeartbeats 4000000 in
theorem ZbW (J : Al G T g) (F : Fm) {size : Nat} (hs : size < 2 * F.sg) {p q : Int × Bool} : run G T 293 [boxA p q,.int .u8 F.u,.int .u64 (size : Int)] = some (zA (sideW F size p) (sideW F size q)):=by
 rw [Zab G T J.J.ZbW]
 have z0 : (0 : Nat) < 2 * F.sg:=by cases F <;> decide
 have n1:=Zny J F hs
 have n2:=Zny J F z0
 unfold sideW
 obtain ⟨n,s⟩:=p
 obtain ⟨k,t⟩:=q
 simp only [boxA,zA,cast0] at *
 by_cases h1 : n = 0 <;> by_cases h2 : k = 0 <;> cases s <;> cases t <;> simp only [h1,h2,ne_eq,not_true_eq_false,not_false_eq_true,if_true,if_false,Bool.false_eq_true,cast0] <;>
  repeat' (first|simp (maxSteps:=9^7) only [seval,exC,Zcc,ZFu,ZFv,ZFl,ZFm,ZCU,Zcn,h1,h2,n1,n2,wr_1,wr1,wr_2,wr2]|simp (maxSteps:=9^7) (disch:=first|with_reducible assumption|omega) only [dxB]|(simp only [kdB];split)|(simp only [kvB];split))
theorem ZdM (J : Al G T g) (F : Fm) {x : Nat} : run G T 290 [.int .u8 F.u,.int .u8 (x : Int)] = some (zrA (F.nan,x) (F.nan,x)):=by
 rw [Zab G T J.J.ZdM]
 have h1:=ZoS J F
 simp only [zrA]
 repeat' (first|simp (maxSteps:=9^7) only [seval,exC,Zfj,h1]|simp (maxSteps:=9^7) (disch:=first|with_reducible assumption|omega) only [dxB]|(simp only [kdB];split)|(simp only [kvB];split))
theorem Zmc (J : Al G T g) (F : Fm) {n : Bool} : run G T 303 [.int .u8 F.u,.bool n] = some (.int .u64 ((F.one + F.sgn n : Nat) : Int)):=by
 rw [Zab G T J.J.Zmc]
 have h1:=ZeT J F
 cases F
 ·have h2:=ZdL J .s (n:=n) (x:=127) (w:=0) (by decide) (Or.inl (by decide))
  cases n <;> (
   simp only [fldA,Fm.u,Fm.one,Fm.most,Fm.fr,Fm.sgn,Fm.sg,Int.cast_ofNat_Int,Nat.reducePow,Nat.reduceMul,Nat.reduceDiv,Nat.reduceAdd,Bool.false_eq_true,if_false,if_true,cast0,Nat.add_zero] at *
   have q : IntKind.i64.wrap ((255 : Int).tdiv 2) = 127:=rfl
   repeat' (first|simp (maxSteps:=9^7) only [seval,exC,ZgE,h1,q,h2]|simp (maxSteps:=9^7) (disch:=first|with_reducible assumption|omega) only [dxB]|(simp only [kdB];split)|(simp only [kvB];split)))
 ·have h2:=ZdL J .d (n:=n) (x:=1023) (w:=0) (by decide) (Or.inl (by decide))
  cases n <;> (
   simp only [fldA,Fm.u,Fm.one,Fm.most,Fm.fr,Fm.sgn,Fm.sg,Int.cast_ofNat_Int,Nat.reducePow,Nat.reduceMul,Nat.reduceDiv,Nat.reduceAdd,Bool.false_eq_true,if_false,if_true,cast0,Nat.add_zero] at *
   have q : IntKind.i64.wrap ((2047 : Int).tdiv 2) = 1023:=rfl
   repeat' (first|simp (maxSteps:=9^7) only [seval,exC,ZgE,h1,q,h2]|simp (maxSteps:=9^7) (disch:=first|with_reducible assumption|omega) only [dxB]|(simp only [kdB];split)|(simp only [kvB];split)))
def bxw (F : Fm) (w : Nat) (big : Bool) : Nat:=if big then F.one + F.sgn (decide (F.cls w≠5) && F.ng w) else F.sgn (decide (F.cls w≠5) && F.ng w)
theorem Zik (J : Al G T g) (F : Fm) {w : Nat} {big : Bool} (hw : w < 2 * F.sg) : run G T 311 [.int .u8 F.u,.int .u64 (w : Int),.bool big] = some (.int .u64 (bxw F w big : Int)):=by
 rw [Zab G T J.J.Zik]
 have h1:=ZaB J F (Zbm hw)
 have h2:=Zby J F (Zbm hw)
 have h3:=fun n => Zmc J F (n:=n)
 have h4:=fun n => Zbd J F (n:=n) (w:=0)
 rw [Nat.zero_mod] at h4
 unfold bxw
 generalize F.cls w = c at *
 generalize F.ng w = n at *
 generalize F.ex w = x at *
 generalize F.fc w = y at *
 simp only [fldA,cast0,Nat.zero_add] at *
 by_cases h5 : c = 5
 ·have h3:=h3 false
  have h4:=h4 false
  subst h5
  simp only [ne_eq,not_true_eq_false,decide_false,Bool.false_and]
  cases big
  ·simp only [Bool.false_eq_true,if_false]
   generalize F.sgn false = s at *
   repeat' (first|simp (maxSteps:=9^7) only [seval,exC,Zdy,fd_3,h1,h4]|simp (maxSteps:=9^7) (disch:=first|with_reducible assumption|omega) only [dxB]|(simp only [kdB];split)|(simp only [kvB];split))
  ·simp only [if_true]
   generalize F.one + F.sgn false = s at *
   repeat' (first|simp (maxSteps:=9^7) only [seval,exC,Zdy,fd_3,h1,h3]|simp (maxSteps:=9^7) (disch:=first|with_reducible assumption|omega) only [dxB]|(simp only [kdB];split)|(simp only [kvB];split))
 ·have h3:=h3 n
  have h4:=h4 n
  simp only [ne_eq,h5,not_false_eq_true,decide_true,Bool.true_and]
  cases big
  ·simp only [Bool.false_eq_true,if_false]
   generalize F.sgn n = s at *
   repeat' (first|simp (maxSteps:=9^7) only [seval,exC,Zdy,fd_3,h1,h5,h2,h4]|simp (maxSteps:=9^7) (disch:=first|with_reducible assumption|omega) only [dxB]|(simp only [kdB];split)|(simp only [kvB];split))
  ·simp only [if_true]
   generalize F.one + F.sgn n = s at *
   repeat' (first|simp (maxSteps:=9^7) only [seval,exC,Zdy,fd_3,h1,h5,h2,h3]|simp (maxSteps:=9^7) (disch:=first|with_reducible assumption|omega) only [dxB]|(simp only [kdB];split)|(simp only [kvB];split))
theorem Ztu (F : Fm) {w : Nat} {inf : Bool} (h : inf = true∨F.cls w≠5) : bxw F w (if inf then decide (F.cls w = 4) else decide (F.cls w≠1)) = bw F (sd F w inf):=by
 unfold bxw bw sd
 cases inf
 ·have h5 : F.cls w≠5:=by rcases h with h | h; cases h; exact h
  simp only [Bool.false_eq_true,if_false,h5,ne_eq,not_false_eq_true,decide_true,Bool.true_and,decide_eq_true_eq]
  by_cases k : F.cls w = 1
  ·simp [k]
  ·cases F.ng w <;> simp [k]
 ·by_cases h5 : F.cls w = 5
  ·simp [h5]
  ·simp only [if_true,h5,ne_eq,not_false_eq_true,decide_true,Bool.true_and,decide_eq_true_eq,if_false]
   by_cases k : F.cls w = 4
   ·cases F.ng w <;> simp [k]
   ·simp [k]
theorem Zmb (J : Al G T g) (F : Fm) {a b : Nat} (ha : a < 2 * F.sg) (hb : b < 2 * F.sg) (h4 : zcl (F.cls a) (F.cls b)≠4) :
  run G T 300 [.int .u8 F.u,zA a b] = some (zA (bw F (sd F a (decide (zcl (F.cls a) (F.cls b) = 3)))) (bw F (sd F b (decide (zcl (F.cls a) (F.cls b) = 3))))):=by
 rw [Zab G T J.J.Zmb]
 have h1:=ZgJ J F ha hb
 have c1:=ZaB J F (Zbm ha)
 have c2:=ZaB J F (Zbm hb)
 by_cases h3 : zcl (F.cls a) (F.cls b) = 3
 ·have e1:=Ztu F (w:=a) (inf:=true) (Or.inl rfl)
  have e2:=Ztu F (w:=b) (inf:=true) (Or.inl rfl)
  rw [decide_eq_true h3,← e1,← e2]
  simp only [if_true]
  have b1:=Zik J F (big:=decide (F.cls a = 4)) ha
  have b2:=Zik J F (big:=decide (F.cls b = 4)) hb
  generalize bxw F a (decide (F.cls a = 4)) = s1 at *
  generalize bxw F b (decide (F.cls b = 4)) = s2 at *
  rw [h3] at h1
  generalize F.cls a = ca at *
  generalize F.cls b = cb at *
  simp only [zA] at *
  repeat' (first|simp (maxSteps:=9^7) only [seval,exC,ZgD,h1,c1,c2,b1,b2]|simp (maxSteps:=9^7) (disch:=first|with_reducible assumption|omega) only [dxB]|(simp only [kdB];split)|(simp only [kvB];split))
 ·have n5 : F.cls a≠5∧F.cls b≠5:=by
   unfold zcl at h3 h4
   by_cases q : F.cls a = 4∨F.cls b = 4
   ·rw [if_pos q] at h3; exact absurd rfl h3
   ·rw [if_neg q] at h4
    by_cases r : F.cls a = 5∨F.cls b = 5
    ·rw [if_pos r] at h4; exact absurd rfl h4
    ·exact ⟨fun h => r (Or.inl h),fun h => r (Or.inr h)⟩
  have e1:=Ztu F (w:=a) (inf:=false) (Or.inr n5.1)
  have e2:=Ztu F (w:=b) (inf:=false) (Or.inr n5.2)
  simp only [Bool.false_eq_true,if_false,ne_eq,decide_not] at e1 e2
  rw [decide_eq_false h3,← e1,← e2]
  clear e1 e2
  have b1:=Zik J F (big:=!decide (F.cls a = 1)) ha
  have b2:=Zik J F (big:=!decide (F.cls b = 1)) hb
  generalize bxw F a (!decide (F.cls a = 1)) = s1 at *
  generalize bxw F b (!decide (F.cls b = 1)) = s2 at *
  generalize zcl (F.cls a) (F.cls b) = zc at *
  generalize F.cls a = ca at *
  generalize F.cls b = cb at *
  simp only [zA] at *
  repeat' (first|simp (maxSteps:=9^7) only [seval,exC,ZgD,h1,h3,c1,c2,b1,b2]|simp (maxSteps:=9^7) (disch:=first|with_reducible assumption|omega) only [dxB]|(simp only [kdB];split)|(simp only [kvB];split))
theorem Zjp (J : Al G T g) (F : Fm) {md : Int} (hm : 1≤md∧md≤5) {p q r s : Int × Bool} (hp : SdC p) (hq : SdC q) (hr : SdC r) (hs : SdC s) :
  run G T 299 [.int .u8 F.u,.int .u8 md,zA (bw F p) (bw F q),zA (bw F r) (bw F s)] = some (zA (addW F md (bw F (sT p r)) (bw F (sM (sT q s)))).1 (addW F md (bw F (sT p s)) (bw F (sT q r))).1):=by
 rw [Zab G T J.J.Zjp]
 have m1:=Zii J F hm (ZaX F hp).1 (ZaX F hr).1
 have m2:=Zii J F hm (ZaX F hq).1 (ZaX F hs).1
 have m3:=Zii J F hm (ZaX F hp).1 (ZaX F hs).1
 have m4:=Zii J F hm (ZaX F hq).1 (ZaX F hr).1
 rw [Ztt F md hp hr] at m1
 rw [Ztt F md hq hs] at m2
 rw [Ztt F md hp hs] at m3
 rw [Ztt F md hq hr] at m4
 have s1:=ZoA J F hm (ZaX F (sT_c hp hr)).1 (ZaX F (sT_c hq hs)).1
 rw [ZrU F md (ZaX F (sT_c hq hs)).1,ZwK F (sT_c hq hs)] at s1
 have s2:=Zka J F hm (ZaX F (sT_c hp hs)).1 (ZaX F (sT_c hq hr)).1
 generalize addW F md (bw F (sT p r)) (bw F (sM (sT q s))) = X at *
 generalize addW F md (bw F (sT p s)) (bw F (sT q r)) = Y at *
 simp only [zA] at *
 repeat' (first|simp (maxSteps:=9^7) only [seval,exC,Zei,m1,m2,m3,m4,s1,s2]|simp (maxSteps:=9^7) (disch:=first|with_reducible assumption|omega) only [dxB]|(simp only [kdB];split)|(simp only [kvB];split))
def trn (F : Fm) (to w : Nat) : Nat:=if F.cls w = 1 then w else to % F.sg + F.sgn (F.ng w)
theorem ZqI (e : Env) (h : Heap) : evL G T ZeM e h = kS G T (evL G T Zbw (keepE [0,2,6,7,8] e) h) ZeM:=Zad G T rfl e h
theorem Zkd (J : Al G T g) (F : Fm) {a b to : Nat} (ha : a < 2 * F.sg) (hb : b < 2 * F.sg) :
  run G T 298 [.int .u8 F.u,zA a b,.int .u64 (to : Int)] = some (zA (trn F to a) (trn F to b)):=by
 rw [Zab G T J.J.Zkd]
 have c1:=ZaB J F (Zbm ha)
 have c2:=ZaB J F (Zbm hb)
 have p1:=Zby J F (Zbm ha)
 have p2:=Zby J F (Zbm hb)
 have q1:=Zbd J F (n:=F.ng a) (w:=to)
 have q2:=Zbd J F (n:=F.ng b) (w:=to)
 unfold trn
 generalize to % F.sg + F.sgn (F.ng a) = s1 at *
 generalize to % F.sg + F.sgn (F.ng b) = s2 at *
 generalize F.ng a = n1 at *
 generalize F.ng b = n2 at *
 generalize F.ex a = x1 at *
 generalize F.ex b = x2 at *
 generalize F.fc a = y1 at *
 generalize F.fc b = y2 at *
 simp only [zA,fldA] at *
 by_cases k1 : F.cls a = 1 <;> by_cases k2 : F.cls b = 1
 ·rw [if_pos k1,if_pos k2]
  rw [k1] at c1
  rw [k2] at c2
  repeat' (first|simp (maxSteps:=9^7) only [seval,exC,ZbI,ZqI,Zbw,fd_3,ZbM,c1,c2,wr_1,wr1,wr_2,wr2]|simp (maxSteps:=9^7) (disch:=first|with_reducible assumption|omega) only [dxB]|(simp only [kdB];split)|(simp only [kvB];split))
 ·rw [if_pos k1,if_neg k2]
  rw [k1] at c1
  repeat' (first|simp (maxSteps:=9^7) only [seval,exC,ZbI,ZqI,Zbw,fd_3,ZbM,c1,c2,k2,p2,q2,wr_1,wr1,wr_2,wr2]|simp (maxSteps:=9^7) (disch:=first|with_reducible assumption|omega) only [dxB]|(simp only [kdB];split)|(simp only [kvB];split))
 ·rw [if_neg k1,if_pos k2]
  rw [k2] at c2
  repeat' (first|simp (maxSteps:=9^7) only [seval,exC,ZbI,ZqI,Zbw,fd_3,ZbM,c1,k1,p1,q1,c2,wr_1,wr1,wr_2,wr2]|simp (maxSteps:=9^7) (disch:=first|with_reducible assumption|omega) only [dxB]|(simp only [kdB];split)|(simp only [kvB];split))
 ·rw [if_neg k1,if_neg k2]
  repeat' (first|simp (maxSteps:=9^7) only [seval,exC,ZbI,ZqI,Zbw,fd_3,ZbM,c1,k1,p1,q1,c2,k2,p2,q2,wr_1,wr1,wr_2,wr2]|simp (maxSteps:=9^7) (disch:=first|with_reducible assumption|omega) only [dxB]|(simp only [kdB];split)|(simp only [kvB];split))
theorem Zga (J : Al G T g) (F : Fm) {x : Nat} : run G T 297 [.int .u8 F.u,.int .u8 (x : Int)] = some (zrA (F.nan,x) (F.nan,x)):=by
 rw [Zab G T J.J.Zga]
 have h1:=ZeU J F
 simp only [zrA]
 repeat' (first|simp (maxSteps:=9^7) only [seval,exC,Zeh,h1]|simp (maxSteps:=9^7) (disch:=first|with_reducible assumption|omega) only [dxB]|(simp only [kdB];split)|(simp only [kvB];split))
theorem Znw (F : Fm) (md : Int) {to : Nat} (ht : to = 0∨to = F.inf false) {p r : Int × Bool} (hp : SdC p) (hr : SdC r) : trn F to (addW F md (bw F p) (bw F r)).1 = sideW F to (sP md p r):=by
 have hi:=Zdb F
 obtain ⟨_,h⟩:=ZwJ F md hp hr
 have z1 : F.cls 0 = 1:=(ZeA F false).2.2.1
 have z2 : F.cls (F.inf false) = 4:=ZpO F false
 have m0 : F.min 0 = F.sgn true:=by
  unfold Fm.min; rw [if_neg (by rw [z1]; decide)]; cases F <;> decide
 have m1 : F.min (F.inf false) = F.inf true:=by
  unfold Fm.min; rw [if_neg (by rw [z2]; decide)]; cases F <;> decide
 have r0 : ∀ n,0 % F.sg + F.sgn n = F.sgn n:=fun n => by rw [Nat.zero_mod,Nat.zero_add]
 have r1 : ∀ n,F.inf false % F.sg + F.sgn n = F.inf n:=fun n => by cases F <;> cases n <;> decide
 have s0 : F.sgn false = 0:=rfl
 unfold trn sideW
 rcases h with ⟨h1,h2,h3⟩ | ⟨h1,h2,h3⟩
 ·have e0 : ¬ ((sP md p r).1≠0):=fun h => h h1
  rw [if_pos h2,h3]
  simp only [if_neg e0]
  cases (sP md p r).2
  ·simp [s0]
  ·simp [m0]
 ·rw [if_neg h2,h3]
  simp only [if_pos h1]
  rcases ht with rfl | rfl
  ·rw [r0]
   cases (sP md p r).2
   ·simp [s0]
   ·simp [m0]
  ·rw [r1]
   cases (sP md p r).2
   ·simp
   ·simp [m1]
def apC (bs : List Blk) (f : List Nat) (b n : Nat) (o : Option Blk) (w : Option (List AV)) : Option (AV × Heap) :=
 match w with
 | some nw => match o with
  | some k => if k.dead = false∧f.contains b = false∧n * 1≤k.cs.length∧n + 1≤boundApp then some (.own bs.length 0 (n + 1) 1,⟨bs.set b ⟨k.cs,true⟩ ++ [⟨k.cs.take (n * 1) ++ nw,false⟩],f⟩) else none
  | none => none
 | none => none
theorem ZGW (bs : List Blk) (f : List Nat) (b n c : Nat) : appV ⟨bs,f⟩ 1 1 (.own b 0 n 1) (.own c 0 1 1) = apC bs f b n (bs[b]?) (subB (bs[c]?) 0 1):=by
 have h1:=Zot bs f c 0 1
 simp only [appV,sliceCells,if_true,Nat.one_mul,h1]
 cases subB (bs[c]?) 0 1 with
 | none => rfl
 | some nw =>
  simp only [Option.map_some,apC]
  cases bs[b]? with
  | none => rfl
  | some k => simp
theorem ZGU (bs : List Blk) (b : Nat) (cs nw : List AV) : apC bs [] b 0 (some ⟨cs,false⟩) (some nw) = some (.own bs.length 0 1 1,⟨bs.set b ⟨cs,true⟩ ++ [⟨nw,false⟩],[]⟩):=by
 simp [apC,boundApp]
theorem ZGV (bs : List Blk) (b : Nat) (x1 : AV) (nw : List AV) : apC bs [] b 1 (some ⟨[x1],false⟩) (some nw) = some (.own bs.length 0 2 1,⟨bs.set b ⟨[x1],true⟩ ++ [⟨x1 :: nw,false⟩],[]⟩):=by
 simp [apC,boundApp]
theorem ZHp (h : Mem) (x y : AV) (l : List AV) : rdAt G h 2 (.iptr (x :: y :: l) 0) = some [x,y]:=by simp [rdAt]
theorem ZHq (h : Mem) (x y u v : AV) (l : List AV) : rdAt G h 2 (.iptr (x :: y :: u :: v :: l) 2) = some [u,v]:=by simp [rdAt]
theorem ZDT (e : Env) (h : Heap) : evL G T ZeO e h = kS G T (evL G T ZeN (keepE [0,10,27,28,29] e) h) ZeO:=Zad G T rfl e h
theorem Zmu (J : Al G T g) (F : Fm) {w : Nat} (hw : w < 18446744073709551616) : run G T 312 [.int .u8 F.u,.int .u64 (w : Int)] = some (.int .i64 (if w < 2 * F.sg then 0 else 6)):=by
 rw [Zab G T J.J.Zmu]
 have h1:=Zit J F hw
 generalize (if w < 2 * F.sg then (0 : Int) else 6) = e at *
 simp only [shA] at *
 repeat' (first|simp (maxSteps:=9^7) only [seval,exC,ZiY,h1]|simp (maxSteps:=9^7) (disch:=first|with_reducible assumption|omega) only [dxB]|(simp only [kdB];split)|(simp only [kvB];split))
theorem ZlR (J : Al G T g) (F : Fm) {a b : Nat} (ha : a < 18446744073709551616) (hb : b < 18446744073709551616) : run G T 304 [.int .u8 F.u,zA a b] = some (.int .i64 (if a < 2 * F.sg∧b < 2 * F.sg then 0 else 6)):=by
 rw [Zab G T J.J.ZlR]
 have h1:=Zmu J F ha
 have h2:=Zmu J F hb
 simp only [zA]
 by_cases k1 : a < 2 * F.sg
 ·rw [if_pos k1] at h1
  by_cases k2 : b < 2 * F.sg
  ·rw [if_pos k2] at h2
   rw [if_pos ⟨k1,k2⟩]
   repeat' (first|simp (maxSteps:=9^7) only [seval,exC,ZeK,h1,h2]|simp (maxSteps:=9^7) (disch:=first|with_reducible assumption|omega) only [dxB]|(simp only [kdB];split)|(simp only [kvB];split))
  ·rw [if_neg k2] at h2
   rw [if_neg (fun h => k2 h.2)]
   repeat' (first|simp (maxSteps:=9^7) only [seval,exC,ZeK,h1,h2]|simp (maxSteps:=9^7) (disch:=first|with_reducible assumption|omega) only [dxB]|(simp only [kdB];split)|(simp only [kvB];split))
 ·rw [if_neg k1] at h1
  rw [if_neg (fun h => k1 h.1)]
  repeat' (first|simp (maxSteps:=9^7) only [seval,exC,ZeK,h1]|simp (maxSteps:=9^7) (disch:=first|with_reducible assumption|omega) only [dxB]|(simp only [kdB];split)|(simp only [kvB];split))
def im2 (a b c d : Nat) : AV:=.imm 2 [.int .u64 (a : Int),.int .u64 (b : Int),.int .u64 (c : Int),.int .u64 (d : Int)]
theorem Zmo (J : Al G T g) (F : Fm) {md : Int} (hm : 1≤md∧md≤5) {a b c d : Nat} (ha : a < 2 * F.sg) (hb : b < 2 * F.sg) (hc : c < 2 * F.sg) (hd : d < 2 * F.sg) :
  run G T 289 [.int .u8 F.u,.int .u8 md,im2 a b c d] = some (.tup [.imm 2 [.int .u8 (zcl (F.cls a) (F.cls b)),.int .u8 (zcl (F.cls c) (F.cls d))],.int .i64 0]):=by
 rw [Zab G T J.J.special_open]
 have o1:=ZkM J F hm (neg:=false)
 have c1:=ZkF J F ha hb
 have c2:=ZkF J F hc hd
 generalize zcl (F.cls a) (F.cls b) = x at *
 generalize zcl (F.cls c) (F.cls d) = y at *
 simp only [zA,im2] at *
 repeat' (first|simp (maxSteps:=9^7) only [seval,exC,Zfk,o1,c1,c2,ZDT,ZeN,ZvJ,ZvK,fa_i,ZHp,ZHq,ZGU,ZGV,wr_1,wr1,wr_2,wr2,ZGW,List.set_cons_zero,List.set_cons_succ,List.cons_append,List.nil_append ]|simp (maxSteps:=9^7) (disch:=first|with_reducible assumption|omega) only [dxB,ZBl]|(simp only [kdB];split)|(simp only [kvB];split))
def smS (F : Fm) (a b c d : Nat) : Bool:=!decide (zcl (F.cls a) (F.cls b)≤2∧zcl (F.cls c) (F.cls d)≤2)
def bx (F : Fm) (a b : Nat) : (Int × Bool) × (Int × Bool):=(sd F a (decide (zcl (F.cls a) (F.cls b) = 3)),sd F b (decide (zcl (F.cls a) (F.cls b) = 3)))
def smP (F : Fm) (md : Int) (a b c d : Nat) : (Int × Bool) × (Int × Bool):=bxT md (bx F a b).1 (bx F a b).2 (bx F c d).1 (bx F c d).2
def smW (F : Fm) (md : Int) (a b c d : Nat) : (Nat × Nat) × (Nat × Nat) :=
 if zcl (F.cls a) (F.cls b)≤2∧zcl (F.cls c) (F.cls d)≤2 then ((0,0),(0,0))
 else if zcl (F.cls a) (F.cls b) = 4∨zcl (F.cls c) (F.cls d) = 4 then ((F.nan,0),(F.nan,0))
 else if zcl (F.cls a) (F.cls b) = 1∨zcl (F.cls c) (F.cls d) = 1 then ((F.nan,1),(F.nan,1))
 else ((sideW F (F.inf false) (smP F md a b c d).1,0),(sideW F (F.inf false) (smP F md a b c d).2,0))
def bxd (F : Fm) (c d : Nat) : (Int × Bool) × (Int × Bool):=(if zcl (F.cls c) (F.cls d) = 1 then (if (bx F c d).1.2 then -1 else 1,(bx F c d).1.2) else (bx F c d).1,sM (bx F c d).2)
def sdP (F : Fm) (md : Int) (a b c d : Nat) : (Int × Bool) × (Int × Bool):=bxT md (bx F a b).1 (bx F a b).2 (bxd F c d).1 (bxd F c d).2
def sdS (F : Fm) (a b c d : Nat) : Bool:=!decide (zcl (F.cls a) (F.cls b)≤2∧zcl (F.cls c) (F.cls d) = 2)
def sdW (F : Fm) (md : Int) (a b c d : Nat) : (Nat × Nat) × (Nat × Nat) :=
 if zcl (F.cls a) (F.cls b)≤2∧zcl (F.cls c) (F.cls d) = 2 then ((0,0),(0,0))
 else if zcl (F.cls a) (F.cls b) = 4∨zcl (F.cls c) (F.cls d) = 4 then ((F.nan,0),(F.nan,0))
 else if zcl (F.cls a) (F.cls b) = zcl (F.cls c) (F.cls d) then ((F.nan,1),(F.nan,1))
 else if zcl (F.cls c) (F.cls d) = 3 then ((sideW F 0 (sdP F md a b c d).1,0),(sideW F 0 (sdP F md a b c d).2,0))
 else if zcl (F.cls a) (F.cls b) = 3 then ((sideW F (F.inf false) (sdP F md a b c d).1,0),(sideW F (F.inf false) (sdP F md a b c d).2,0))
 else ((sideW F (F.inf false) (sdP F md a b c d).1,2),(sideW F (F.inf false) (sdP F md a b c d).2,2))
theorem Ziu (F : Fm) (a b : Nat) : zcl (F.cls a) (F.cls b) = 1∨zcl (F.cls a) (F.cls b) = 2∨zcl (F.cls a) (F.cls b) = 3∨zcl (F.cls a) (F.cls b) = 4:=by
 unfold zcl; repeat' split
 all_goals omega
theorem ZBi (F : Fm) (n : Bool) : F.inf n < 2 * F.sg:=by cases F <;> cases n <;> decide
theorem bx_c (F : Fm) (a b : Nat) : SdC (bx F a b).1∧SdC (bx F a b).2:=⟨sd_c _ _ _,sd_c _ _ _⟩
theorem ZCV (F : Fm) (c d : Nat) : SdC (bxd F c d).1∧SdC (bxd F c d).2:=by
 refine ⟨?_,sM_c (bx_c F c d).2⟩
 unfold bxd
 by_cases h : zcl (F.cls c) (F.cls d) = 1
 ·simp only [if_pos h]; unfold SdC; cases (bx F c d).1.2 <;> simp
 ·simp only [if_neg h]; exact (bx_c F c d).1
theorem ZhK (x y : AV) (k : IntKind) : iaddrV 1 (.imm 2 [x,y]) (.int k 0) = some (.iptr [x,y] 0):=rfl
theorem ZhL (x y : AV) (k : IntKind) : iaddrV 1 (.imm 2 [x,y]) (.int k 1) = some (.iptr [x,y] 1):=rfl
set_option maxHeartbeats 8000000 in
theorem Zlp (J : Al G T g) (F : Fm) {md : Int} (hm : 1≤md∧md≤5) {a b c d : Nat} (ha : a < 2 * F.sg) (hb : b < 2 * F.sg) (hc : c < 2 * F.sg) (hd : d < 2 * F.sg) :
  run G T 268 [.int .u8 F.u,.int .u8 md,zA a b,zA c d] = some (.tup [zrA (smW F md a b c d).1 (smW F md a b c d).2,.bool (smS F a b c d),.int .i64 0]):=by
 rw [Zab G T J.J.Zlp]
 have o1:=Zmo J F hm ha hb hc hd
 have i1:=ZkR J F (n:=false)
 have n0:=ZdM J F (x:=0)
 have n1:=ZdM J F (x:=1)
 have b1:=ZcT J F (c:=zcl (F.cls a) (F.cls b)) ha hb
 have b2:=ZcT J F (c:=zcl (F.cls c) (F.cls d)) hc hd
 have t1:=ZcU J (md:=md) (bx_c F a b).1 (bx_c F a b).2 (bx_c F c d).1 (bx_c F c d).2
 have w1:=ZbW J F (ZBi F false) (p:=(smP F md a b c d).1) (q:=(smP F md a b c d).2)
 have ra:=Ziu F a b
 have rc:=Ziu F c d
 rw [show sd F a (decide (zcl (F.cls a) (F.cls b) = 3)) = (bx F a b).1 from rfl,show sd F b (decide (zcl (F.cls a) (F.cls b) = 3)) = (bx F a b).2 from rfl] at b1
 rw [show sd F c (decide (zcl (F.cls c) (F.cls d) = 3)) = (bx F c d).1 from rfl,show sd F d (decide (zcl (F.cls c) (F.cls d) = 3)) = (bx F c d).2 from rfl] at b2
 rw [show bxT md (bx F a b).1 (bx F a b).2 (bx F c d).1 (bx F c d).2 = smP F md a b c d from rfl] at t1
 unfold smW smS
 generalize smP F md a b c d = P at *
 generalize bx F a b = p at *
 generalize bx F c d = q at *
 generalize zcl (F.cls a) (F.cls b) = x at *
 generalize zcl (F.cls c) (F.cls d) = y at *
 by_cases k0 : x≤2∧y≤2
 ·obtain ⟨x2,y2⟩:=k0
  rw [if_pos ⟨x2,y2⟩,decide_eq_true (show x≤2∧y≤2 from ⟨x2,y2⟩)]
  simp only [zA,zrA,im2,cast0,Bool.not_true] at *
  repeat' (first|simp (maxSteps:=9^7) only [seval,exC,ZaG,Zdo,ZbM,o1,ZhK,ZhL,rp_0,rp_1,i1,x2,y2]|simp (maxSteps:=9^7) (disch:=first|with_reducible assumption|omega) only [dxB]|(simp only [kdB];split)|(simp only [kvB];split))
 ·rw [if_neg k0,decide_eq_false k0]
  by_cases k4 : x = 4∨y = 4
  ·rw [if_pos k4]
   simp only [zA,zrA,im2,cast0,Bool.not_false] at *
   rcases k4 with rfl | rfl
   ·repeat' (first|simp (maxSteps:=9^7) only [seval,exC,ZaG,Zdo,ZbM,o1,ZhK,ZhL,rp_0,rp_1,i1,n0]|simp (maxSteps:=9^7) (disch:=first|with_reducible assumption|omega) only [dxB]|(simp only [kdB];split)|(simp only [kvB];split))
   ·by_cases h4 : x = 4
    ·subst h4
     repeat' (first|simp (maxSteps:=9^7) only [seval,exC,ZaG,Zdo,ZbM,o1,ZhK,ZhL,rp_0,rp_1,i1,n0]|simp (maxSteps:=9^7) (disch:=first|with_reducible assumption|omega) only [dxB]|(simp only [kdB];split)|(simp only [kvB];split))
    ·by_cases h2 : x≤2
     ·repeat' (first|simp (maxSteps:=9^7) only [seval,exC,ZaG,Zdo,ZbM,o1,ZhK,ZhL,rp_0,rp_1,i1,h2,h4,n0]|simp (maxSteps:=9^7) (disch:=first|with_reducible assumption|omega) only [dxB]|(simp only [kdB];split)|(simp only [kvB];split))
     ·repeat' (first|simp (maxSteps:=9^7) only [seval,exC,ZaG,Zdo,ZbM,o1,ZhK,ZhL,rp_0,rp_1,i1,h2,h4,n0]|simp (maxSteps:=9^7) (disch:=first|with_reducible assumption|omega) only [dxB]|(simp only [kdB];split)|(simp only [kvB];split))
  ·rw [if_neg k4]
   have e4 : ¬ x = 4:=fun h => k4 (Or.inl h)
   have f4 : ¬ y = 4:=fun h => k4 (Or.inr h)
   by_cases k1 : x = 1∨y = 1
   ·rw [if_pos k1]
    simp only [zA,zrA,im2,cast0,Bool.not_false,Int.cast_ofNat_Int] at *
    rcases k1 with rfl | rfl
    ·have y2 : ¬ y≤2:=fun h => k0 ⟨by omega,h⟩
     repeat' (first|simp (maxSteps:=9^7) only [seval,exC,ZaG,Zdo,ZbM,o1,ZhK,ZhL,rp_0,rp_1,i1,y2,f4,n1]|simp (maxSteps:=9^7) (disch:=first|with_reducible assumption|omega) only [dxB]|(simp only [kdB];split)|(simp only [kvB];split))
    ·have x2 : ¬ x≤2:=fun h => k0 ⟨h,by omega⟩
     have x1 : ¬ x = 1:=by omega
     repeat' (first|simp (maxSteps:=9^7) only [seval,exC,ZaG,Zdo,ZbM,o1,ZhK,ZhL,rp_0,rp_1,i1,x2,e4,x1,n1]|simp (maxSteps:=9^7) (disch:=first|with_reducible assumption|omega) only [dxB]|(simp only [kdB];split)|(simp only [kvB];split))
   ·rw [if_neg k1]
    have e1 : ¬ x = 1:=fun h => k1 (Or.inl h)
    have f1 : ¬ y = 1:=fun h => k1 (Or.inr h)
    simp only [zA,zrA,im2,cast0,boxA,Bool.not_false] at *
    by_cases x2 : x≤2
    ·have y2 : ¬ y≤2:=fun h => k0 ⟨x2,h⟩
     repeat' (first|simp (maxSteps:=9^7) only [seval,exC,ZaG,Zdo,ZbM,o1,ZhK,ZhL,rp_0,rp_1,i1,x2,y2,e4,f4,e1,f1,b1,b2,t1,w1]|simp (maxSteps:=9^7) (disch:=first|with_reducible assumption|omega) only [dxB]|(simp only [kdB];split)|(simp only [kvB];split))
    ·repeat' (first|simp (maxSteps:=9^7) only [seval,exC,ZaG,Zdo,ZbM,o1,ZhK,ZhL,rp_0,rp_1,i1,x2,e4,f4,e1,f1,b1,b2,t1,w1]|simp (maxSteps:=9^7) (disch:=first|with_reducible assumption|omega) only [dxB]|(simp only [kdB];split)|(simp only [kvB];split))
theorem Zmy (F : Fm) {a b : Nat} : (F.fin a∧F.fin b)↔zcl (F.cls a) (F.cls b)≤2:=by
 have ra:=Zdm F a
 have rb:=Zdm F b
 rw [Zap,Zap]
 unfold zcl
 by_cases h1 : F.cls a = 4∨F.cls b = 4
 ·rw [if_pos h1]; omega
 ·rw [if_neg h1]
  by_cases h2 : F.cls a = 5∨F.cls b = 5
  ·rw [if_pos h2]; omega
  ·rw [if_neg h2]; split <;> omega
set_option maxHeartbeats 16000000 in
theorem Zlo (J : Al G T g) (F : Fm) {md : Int} (hm : 1≤md∧md≤5) {a b c d : Nat} (ha : a < 2 * F.sg) (hb : b < 2 * F.sg) (hc : c < 2 * F.sg) (hd : d < 2 * F.sg) :
  run G T 277 [.int .u8 F.u,.int .u8 md,zA a b,zA c d] = some (.tup [zrA (sdW F md a b c d).1 (sdW F md a b c d).2,.bool (sdS F a b c d),.int .i64 0]):=by
 rw [Zab G T J.J.Zlo]
 have o1:=Zmo J F hm ha hb hc hd
 have i1:=ZkR J F (n:=false)
 have n0:=ZdM J F (x:=0)
 have n1:=ZdM J F (x:=1)
 have b1:=ZcT J F (c:=zcl (F.cls a) (F.cls b)) ha hb
 have b2:=ZcT J F (c:=zcl (F.cls c) (F.cls d)) hc hd
 have mi:=Zcv J (bx_c F c d).2
 have t1:=ZcU J (md:=md) (bx_c F a b).1 (bx_c F a b).2 (ZCV F c d).1 (ZCV F c d).2
 have w1:=ZbW J F (ZBi F false) (p:=(sdP F md a b c d).1) (q:=(sdP F md a b c d).2)
 have w0:=ZbW J F (size:=0) (by cases F <;> decide) (p:=(sdP F md a b c d).1) (q:=(sdP F md a b c d).2)
 have ra:=Ziu F a b
 have rc:=Ziu F c d
 rw [show sd F a (decide (zcl (F.cls a) (F.cls b) = 3)) = (bx F a b).1 from rfl,show sd F b (decide (zcl (F.cls a) (F.cls b) = 3)) = (bx F a b).2 from rfl] at b1
 rw [show sd F c (decide (zcl (F.cls c) (F.cls d) = 3)) = (bx F c d).1 from rfl,show sd F d (decide (zcl (F.cls c) (F.cls d) = 3)) = (bx F c d).2 from rfl] at b2
 rw [show bxT md (bx F a b).1 (bx F a b).2 (bxd F c d).1 (bxd F c d).2 = sdP F md a b c d from rfl] at t1
 have hx2 : (bxd F c d).2 = sM (bx F c d).2:=rfl
 rw [← hx2] at mi
 have hx1 : (bxd F c d).1 = if zcl (F.cls c) (F.cls d) = 1 then (if (bx F c d).1.2 then -1 else 1,(bx F c d).1.2) else (bx F c d).1:=rfl
 clear hx2
 unfold sdW sdS
 generalize sdP F md a b c d = P at *
 generalize bxd F c d = r at *
 generalize bx F a b = p at *
 generalize bx F c d = q at *
 generalize zcl (F.cls a) (F.cls b) = x at *
 generalize zcl (F.cls c) (F.cls d) = y at *
 obtain ⟨⟨p1,p2⟩,p3,p4⟩:=p
 obtain ⟨⟨q1,q2⟩,q3,q4⟩:=q
 obtain ⟨⟨r1,r2⟩,r3,r4⟩:=r
 by_cases k0 : x≤2∧y = 2
 ·obtain ⟨x2,rfl⟩:=k0
  rw [if_pos ⟨x2,rfl⟩,decide_eq_true (show x≤2∧(2 : Int) = 2 from ⟨x2,rfl⟩)]
  clear hx1
  simp only [zA,zrA,im2,cast0,Bool.not_true] at *
  repeat' (first|simp (maxSteps:=9^7) only [seval,exC,Zat,Zdo,ZbM,o1,ZhK,ZhL,rp_0,rp_1,i1,x2]|simp (maxSteps:=9^7) (disch:=first|with_reducible assumption|omega) only [dxB]|(simp only [kdB];split)|(simp only [kvB];split))
 ·rw [if_neg k0,decide_eq_false k0]
  have hk : ¬ x≤2∨¬ y = 2:=by omega
  by_cases k4 : x = 4∨y = 4
  ·rw [if_pos k4]
   clear hx1
   simp only [zA,zrA,im2,cast0,Bool.not_false] at *
   by_cases h4 : x = 4
   ·subst h4
    repeat' (first|simp (maxSteps:=9^7) only [seval,exC,Zat,Zdo,ZbM,o1,ZhK,ZhL,rp_0,rp_1,i1,n0]|simp (maxSteps:=9^7) (disch:=first|with_reducible assumption|omega) only [dxB]|(simp only [kdB];split)|(simp only [kvB];split))
   ·have h5 : y = 4:=by omega
    subst h5
    by_cases h2 : x≤2
    ·repeat' (first|simp (maxSteps:=9^7) only [seval,exC,Zat,Zdo,ZbM,o1,ZhK,ZhL,rp_0,rp_1,i1,h2,h4,n0]|simp (maxSteps:=9^7) (disch:=first|with_reducible assumption|omega) only [dxB]|(simp only [kdB];split)|(simp only [kvB];split))
    ·repeat' (first|simp (maxSteps:=9^7) only [seval,exC,Zat,Zdo,ZbM,o1,ZhK,ZhL,rp_0,rp_1,i1,h2,h4,n0]|simp (maxSteps:=9^7) (disch:=first|with_reducible assumption|omega) only [dxB]|(simp only [kdB];split)|(simp only [kvB];split))
  ·rw [if_neg k4]
   have e4 : ¬ x = 4:=fun h => k4 (Or.inl h)
   have f4 : ¬ y = 4:=fun h => k4 (Or.inr h)
   by_cases k1 : x = y
   ·rw [if_pos k1]
    subst k1
    clear hx1
    simp only [zA,zrA,im2,cast0,Bool.not_false,Int.cast_ofNat_Int] at *
    by_cases h2 : x≤2
    ·have h3 : ¬ x = 2:=by omega
     repeat' (first|simp (maxSteps:=9^7) only [seval,exC,Zat,Zdo,ZbM,o1,ZhK,ZhL,rp_0,rp_1,i1,h2,h3,e4,n1]|simp (maxSteps:=9^7) (disch:=first|with_reducible assumption|omega) only [dxB]|(simp only [kdB];split)|(simp only [kvB];split))
    ·repeat' (first|simp (maxSteps:=9^7) only [seval,exC,Zat,Zdo,ZbM,o1,ZhK,ZhL,rp_0,rp_1,i1,h2,e4,n1]|simp (maxSteps:=9^7) (disch:=first|with_reducible assumption|omega) only [dxB]|(simp only [kdB];split)|(simp only [kvB];split))
   ·rw [if_neg k1]
    have k1' : ¬ y = x:=fun h => k1 h.symm
    by_cases y3 : y = 3
    ·subst y3
     rw [if_pos rfl]
     have x2 : x≤2:=by omega
     rw [if_neg (by decide)] at hx1
     injection hx1 with hr1 hr2
     subst hr1 hr2
     clear k4 k0 hk ra rc
     simp only [zA,zrA,im2,cast0,boxA,sideA,Bool.not_false] at *
     repeat' (first|simp (maxSteps:=9^7) only [seval,exC,Zat,Zdo,ZbM,ZnV,ZnW,o1,ZhK,ZhL,rp_0,rp_1,i1,x2,e4,k1,b1,b2,mi,t1,w0]|simp (maxSteps:=9^7) (disch:=first|with_reducible assumption|omega) only [dxB]|(simp only [kdB];split)|(simp only [kvB];split))
    ·rw [if_neg y3]
     by_cases y1 : y = 1
     ·subst y1
      have x1 : ¬ x = 1:=k1
      rw [if_pos rfl] at hx1
      injection hx1 with hr1 hr2
      simp only at hr1 hr2
      subst hr2
      clear k4 k0 rc
      cases r2
      ·simp only [Bool.false_eq_true,if_false] at hr1
       subst hr1
       by_cases x3 : x = 3
       ·subst x3
        rw [if_pos rfl]
        simp only [zA,zrA,im2,cast0,boxA,sideA,Bool.not_false] at *
        repeat' (first|simp (maxSteps:=9^7) only [seval,exC,Zat,Zdo,ZbM,ZnV,ZnW,o1,ZhK,ZhL,rp_0,rp_1,i1,b1,b2,mi,t1,w1]|simp (maxSteps:=9^7) (disch:=first|with_reducible assumption|omega) only [dxB]|(simp only [kdB];split)|(simp only [kvB];split))
       ·rw [if_neg x3]
        have x2 : x≤2:=by omega
        simp only [zA,zrA,im2,cast0,boxA,sideA,Bool.not_false,Int.cast_ofNat_Int] at *
        repeat' (first|simp (maxSteps:=9^7) only [seval,exC,Zat,Zdo,ZbM,ZnV,ZnW,o1,ZhK,ZhL,rp_0,rp_1,i1,x2,x1,x3,e4,b1,b2,mi,t1,w1]|simp (maxSteps:=9^7) (disch:=first|with_reducible assumption|omega) only [dxB]|(simp only [kdB];split)|(simp only [kvB];split))
      ·simp only [if_true] at hr1
       subst hr1
       by_cases x3 : x = 3
       ·subst x3
        rw [if_pos rfl]
        simp only [zA,zrA,im2,cast0,boxA,sideA,Bool.not_false] at *
        repeat' (first|simp (maxSteps:=9^7) only [seval,exC,Zat,Zdo,ZbM,ZnV,ZnW,o1,ZhK,ZhL,rp_0,rp_1,i1,b1,b2,mi,t1,w1]|simp (maxSteps:=9^7) (disch:=first|with_reducible assumption|omega) only [dxB]|(simp only [kdB];split)|(simp only [kvB];split))
       ·rw [if_neg x3]
        have x2 : x≤2:=by omega
        simp only [zA,zrA,im2,cast0,boxA,sideA,Bool.not_false,Int.cast_ofNat_Int] at *
        repeat' (first|simp (maxSteps:=9^7) only [seval,exC,Zat,Zdo,ZbM,ZnV,ZnW,o1,ZhK,ZhL,rp_0,rp_1,i1,x2,x1,x3,e4,b1,b2,mi,t1,w1]|simp (maxSteps:=9^7) (disch:=first|with_reducible assumption|omega) only [dxB]|(simp only [kdB];split)|(simp only [kvB];split))
     ·have y2 : y = 2:=by omega
      subst y2
      have x3 : x = 3:=by omega
      subst x3
      rw [if_pos rfl]
      rw [if_neg (by decide)] at hx1
      injection hx1 with hr1 hr2
      subst hr1 hr2
      clear k4 k0 hk ra rc
      simp only [zA,zrA,im2,cast0,boxA,sideA,Bool.not_false] at *
      repeat' (first|simp (maxSteps:=9^7) only [seval,exC,Zat,Zdo,ZbM,ZnV,ZnW,o1,ZhK,ZhL,rp_0,rp_1,i1,b1,b2,mi,t1,w1]|simp (maxSteps:=9^7) (disch:=first|with_reducible assumption|omega) only [dxB]|(simp only [kdB];split)|(simp only [kvB];split))
theorem Zpu (F : Fm) {p : Int × Bool} (hp : SdC p) : F.can (bw F p) = bw F p∧F.min (bw F p) = bw F (sM p):=by
 have h:=Zap.1 (ZaX F hp).2.2.1
 unfold Fm.can Fm.min
 rw [if_neg (by omega),if_neg (by omega),ZwK F hp]; exact ⟨rfl,rfl⟩
theorem ZCW (F : Fm) {c d : Nat} (h : zcl (F.cls c) (F.cls d) = 1) : bw F (bxd F c d).1 = F.one + F.sgn (F.ng c):=by
 have hc : F.cls c = 1∧F.cls d = 1:=by
  unfold zcl at h
  by_cases q : F.cls c = 4∨F.cls d = 4
  ·rw [if_pos q] at h; omega
  ·rw [if_neg q] at h
   by_cases r : F.cls c = 5∨F.cls d = 5
   ·rw [if_pos r] at h; omega
   ·rw [if_neg r] at h
    by_cases s : F.cls c = 1∧F.cls d = 1
    ·exact s
    ·rw [if_neg s] at h; omega
 have hs : (bx F c d).1 = (0,F.ng c):=by
  unfold bx sd
  rw [h,hc.1]; simp
 unfold bxd bw
 simp only [if_pos h,hs]
 cases F.ng c <;> simp
set_option maxHeartbeats 16000000 in
theorem ZoB (J : Al G T g) (F : Fm) {md : Int} (hm : 1≤md∧md≤5) {a b c d : Nat} (ha : a < 2 * F.sg) (hb : b < 2 * F.sg) (hc : c < 2 * F.sg) (hd : d < 2 * F.sg) :
  run G T 280 [.int .u8 F.u,.int .u8 md,zA a b,zA c d] = some (.tup [zrA (sdW F md a b c d).1 (sdW F md a b c d).2,.bool (sdS F a b c d)]):=by
 rw [Zab G T J.J.ZoB]
 have c1:=ZgJ J F ha hb
 have c2:=ZgJ J F hc hd
 have f1:=Zhx J F ha hb
 have n0:=Zga J F (x:=0)
 have n1:=Zga J F (x:=1)
 have b1:=fun h => Zmb J F ha hb h
 have b2:=fun h => Zmb J F hc hd h
 have i1:=ZjX J F (n:=false)
 have sp:=Zby J F (Zbm hc)
 have on:=Zmc J F (n:=F.ng c)
 obtain ⟨dc1,dc2⟩:=ZCV F c d
 have cj:=ZmM J F (ZaX F dc1).1 (ZaX F (bx_c F c d).2).1
 rw [(Zpu F dc1).1,(Zpu F (bx_c F c d).2).2,show sM (bx F c d).2 = (bxd F c d).2 from rfl] at cj
 have t1:=Zjp J F hm (bx_c F a b).1 (bx_c F a b).2 dc1 dc2
 have w:=fun (to : Nat) => Zkd J F (to:=to) (ZwJ F md (sT_c (bx_c F a b).1 dc1) (sM_c (sT_c (bx_c F a b).2 dc2))).1 (ZwJ F md (sT_c (bx_c F a b).1 dc2) (sT_c (bx_c F a b).2 dc1)).1
 have w1:=w (F.inf false)
 have w0:=w 0
 clear w
 rw [Znw F md (Or.inr rfl) (sT_c (bx_c F a b).1 dc1) (sM_c (sT_c (bx_c F a b).2 dc2)),Znw F md (Or.inr rfl) (sT_c (bx_c F a b).1 dc2) (sT_c (bx_c F a b).2 dc1)] at w1
 rw [Znw F md (Or.inl rfl) (sT_c (bx_c F a b).1 dc1) (sM_c (sT_c (bx_c F a b).2 dc2)),Znw F md (Or.inl rfl) (sT_c (bx_c F a b).1 dc2) (sT_c (bx_c F a b).2 dc1)] at w0
 rw [show sP md (sT (bx F a b).1 (bxd F c d).1) (sM (sT (bx F a b).2 (bxd F c d).2)) = (sdP F md a b c d).1 from rfl,show sP md (sT (bx F a b).1 (bxd F c d).2) (sT (bx F a b).2 (bxd F c d).1) = (sdP F md a b c d).2 from rfl] at w1 w0
 rw [show sd F a (decide (zcl (F.cls a) (F.cls b) = 3)) = (bx F a b).1 from rfl,show sd F b (decide (zcl (F.cls a) (F.cls b) = 3)) = (bx F a b).2 from rfl] at b1
 rw [show sd F c (decide (zcl (F.cls c) (F.cls d) = 3)) = (bx F c d).1 from rfl,show sd F d (decide (zcl (F.cls c) (F.cls d) = 3)) = (bx F c d).2 from rfl] at b2
 have ra:=Ziu F a b
 have rc:=Ziu F c d
 have fa:=Zmy F (a:=a) (b:=b)
 have h11:=ZCW F (c:=c) (d:=d)
 have h12 : zcl (F.cls c) (F.cls d)≠1→bw F (bx F c d).1 = bw F (bxd F c d).1:=fun h => by unfold bxd; simp only [if_neg h]
 unfold sdW sdS
 generalize (addW F md (bw F (sT (bx F a b).1 (bxd F c d).1)) (bw F (sM (sT (bx F a b).2 (bxd F c d).2)))).1 = u1 at *
 generalize (addW F md (bw F (sT (bx F a b).1 (bxd F c d).2)) (bw F (sT (bx F a b).2 (bxd F c d).1))).1 = u2 at *
 generalize sdP F md a b c d = P at *
 generalize F.one + F.sgn (F.ng c) = one at *
 generalize F.ng c = nc at *
 generalize F.ex c = xc at *
 generalize F.fc c = yc at *
 generalize bw F (bx F a b).1 = p1 at *
 generalize bw F (bx F a b).2 = p2 at *
 generalize bw F (bx F c d).1 = q1 at *
 generalize bw F (bx F c d).2 = q2 at *
 generalize bw F (bxd F c d).1 = r1 at *
 generalize bw F (bxd F c d).2 = r2 at *
 generalize zcl (F.cls a) (F.cls b) = x at *
 generalize zcl (F.cls c) (F.cls d) = y at *
 have f1 : (x≤2∧run G T 250 [.int .u8 F.u,zA a b] = some (.bool true))∨(¬ x≤2∧run G T 250 [.int .u8 F.u,zA a b] = some (.bool false)):=by
  by_cases h : x≤2
  ·rw [decide_eq_true (fa.2 h)] at f1; exact Or.inl ⟨h,f1⟩
  ·rw [decide_eq_false (fun q => h (fa.1 q))] at f1; exact Or.inr ⟨h,f1⟩
 clear fa
 by_cases k0 : x≤2∧y = 2
 ·obtain ⟨x2,rfl⟩:=k0
  rw [if_pos ⟨x2,rfl⟩,decide_eq_true (show x≤2∧(2 : Int) = 2 from ⟨x2,rfl⟩)]
  rcases f1 with ⟨_,f1⟩ | ⟨h,_⟩
  ·simp only [zA,zrA,cast0,Bool.not_true] at *
   repeat' (first|simp (maxSteps:=9^7) only [seval,exC,Zbx,c1,c2,f1]|simp (maxSteps:=9^7) (disch:=first|with_reducible assumption|omega) only [dxB]|(simp only [kdB];split)|(simp only [kvB];split))
  ·exact absurd x2 h
 ·rw [if_neg k0,decide_eq_false k0]
  by_cases k4 : x = 4∨y = 4
  ·rw [if_pos k4]
   clear b1 b2 h11 h12
   simp only [zA,zrA,cast0,Bool.not_false] at *
   by_cases h4 : x = 4
   ·subst h4
    rcases f1 with ⟨h,_⟩ | ⟨_,f1⟩
    ·exact absurd h (by decide)
    ·repeat' (first|simp (maxSteps:=9^7) only [seval,exC,Zbx,c1,c2,f1,n0]|simp (maxSteps:=9^7) (disch:=first|with_reducible assumption|omega) only [dxB]|(simp only [kdB];split)|(simp only [kvB];split))
   ·have h5 : y = 4:=by omega
    subst h5
    rcases f1 with ⟨_,f1⟩ | ⟨_,f1⟩ <;> repeat' (first|simp (maxSteps:=9^7) only [seval,exC,Zbx,c1,c2,f1,h4,n0]|simp (maxSteps:=9^7) (disch:=first|with_reducible assumption|omega) only [dxB]|(simp only [kdB];split)|(simp only [kvB];split))
  ·rw [if_neg k4]
   have e4 : ¬ x = 4:=fun h => k4 (Or.inl h)
   have f4 : ¬ y = 4:=fun h => k4 (Or.inr h)
   have b1:=b1 e4
   have b2:=b2 f4
   by_cases k1 : x = y
   ·rw [if_pos k1]
    subst k1
    have x2 : ¬ x = 2:=fun h => k0 ⟨by omega,h⟩
    clear h11 h12 k0 k4
    simp only [zA,zrA,cast0,Bool.not_false,Int.cast_ofNat_Int] at *
    rcases f1 with ⟨_,f1⟩ | ⟨_,f1⟩ <;> repeat' (first|simp (maxSteps:=9^7) only [seval,exC,Zbx,c1,c2,f1,e4,x2,n1]|simp (maxSteps:=9^7) (disch:=first|with_reducible assumption|omega) only [dxB]|(simp only [kdB];split)|(simp only [kvB];split))
   ·rw [if_neg k1]
    by_cases y3 : y = 3
    ·subst y3
     rw [if_pos rfl]
     have e:=h12 (by decide)
     subst e
     clear h11 h12 k0 k4 ra rc
     simp only [zA,zrA,cast0,Bool.not_false] at *
     rcases f1 with ⟨_,f1⟩ | ⟨_,f1⟩ <;> repeat' (first|simp (maxSteps:=9^7) only [seval,exC,Zbx,c1,c2,f1,e4,k1,b1,b2,cj,t1,w0]|simp (maxSteps:=9^7) (disch:=first|with_reducible assumption|omega) only [dxB]|(simp only [kdB];split)|(simp only [kvB];split))
    ·rw [if_neg y3]
     by_cases y1 : y = 1
     ·subst y1
      have e:=h11 rfl
      subst e
      clear h11 h12 k0 k4 rc
      by_cases x3 : x = 3
      ·subst x3
       rw [if_pos rfl]
       simp only [zA,zrA,fldA,cast0,Bool.not_false] at *
       rcases f1 with ⟨h,_⟩ | ⟨_,f1⟩
       ·exact absurd h (by decide)
       ·repeat' (first|simp (maxSteps:=9^7) only [seval,exC,Zbx,fd_3,c1,c2,f1,sp,on,b1,b2,cj,t1,i1,w1]|simp (maxSteps:=9^7) (disch:=first|with_reducible assumption|omega) only [dxB]|(simp only [kdB];split)|(simp only [kvB];split))
      ·rw [if_neg x3]
       simp only [zA,zrA,fldA,cast0,Bool.not_false,Int.cast_ofNat_Int] at *
       rcases f1 with ⟨_,f1⟩ | ⟨_,f1⟩ <;> repeat' (first|simp (maxSteps:=9^7) only [seval,exC,Zbx,fd_3,c1,c2,f1,e4,k1,x3,sp,on,b1,b2,cj,t1,i1,w1]|simp (maxSteps:=9^7) (disch:=first|with_reducible assumption|omega) only [dxB]|(simp only [kdB];split)|(simp only [kvB];split))
     ·have y2 : y = 2:=by omega
      subst y2
      have x3 : x = 3:=by omega
      subst x3
      rw [if_pos rfl]
      have e:=h12 (by decide)
      subst e
      clear h11 h12 k0 k4 ra rc
      simp only [zA,zrA,cast0,Bool.not_false] at *
      rcases f1 with ⟨h,f1⟩ | ⟨_,f1⟩
      ·omega
      ·repeat' (first|simp (maxSteps:=9^7) only [seval,exC,Zbx,c1,c2,f1,b1,b2,cj,t1,i1,w1]|simp (maxSteps:=9^7) (disch:=first|with_reducible assumption|omega) only [dxB]|(simp only [kdB];split)|(simp only [kvB];split))
end Go.Cv
namespace Go.Cv
variable {G : Nat→Option (List AV)} {T : Tbl} {g : Nat}
theorem ZCz : DyA true ⟨false,0,0⟩ = .agg [.bool false,.nil,.int .i64 0]:=by simp only [DyA,A3,Zan,Zsd.symm]
theorem Zmd (J : Al G T g) (F : Fm) {w : Nat} (hw : w < 2 * F.sg) : run G T 306 [.int .u8 F.u,.int .u64 (w : Int)] = some (.bool (F.ng w)):=by
 rw [Zab G T J.J.Zmd]
 have h2:=Zby J F (Zbm hw)
 generalize F.ng w = n at *
 simp only [fldA] at *
 repeat' (first|simp (maxSteps:=9^7) only [seval,exC,ZiV,fd_3,h2]|simp (maxSteps:=9^7) (disch:=first|with_reducible assumption|omega) only [dxB]|(simp only [kdB];split)|(simp only [kvB];split))
theorem ZsJ (J : Al G T g) {z y : Bool} {a b : Dy} (ha : Bd a 16384) (hb : Bd b 16384) : ∃ z',run G T 154 [DyA z a,DyA y b] = some (DyA z' (mulD a b)):=by
 obtain ⟨p1,p2,p3⟩:=ha
 obtain ⟨q1,q2,q3⟩:=hb
 have l1:=Zaa a.m
 have l2:=Zaa b.m
 exact ZjW J (z:=z) (y:=y) (a:=a) (b:=b) (by omega) (by omega) (by omega) (by omega)
theorem ZeV (J : Al G T g) (F : Fm) {a b : Nat} {minus : Bool} (ha : a < 2 * F.sg) (hb : b < 2 * F.sg) (fa : F.fin a) (fb : F.fin b) :
  ∃ z,run G T 301 [.int .u8 F.u,.int .u64 (a : Int),.int .u64 (b : Int),.bool minus] = some (numA z (tm F a b minus)):=by
 apply exP
 rw [Zab G T J.J.ZeV]
 obtain ⟨z1,v1⟩:=Zbl J F (Zbm ha) fa
 obtain ⟨z2,v2⟩:=Zbl J F (Zbm hb) fb
 rw [← Zbu fa] at v1
 rw [← Zbu fb] at v2
 obtain ⟨z3,m1⟩:=ZsJ J (z:=z1) (y:=z2) ((ZcF F a).mono (by decide)) ((ZcF F b).mono (by decide))
 have n1:=ZlY J (z:=z3) (d:=mulD (F.vl a) (F.vl b))
 have g1:=Zmd J F ha
 have g2:=Zmd J F hb
 unfold tm
 generalize negD (mulD (F.vl a) (F.vl b)) = e at *
 generalize mulD (F.vl a) (F.vl b) = d at *
 generalize F.vl a = va at *
 generalize F.vl b = vb at *
 generalize F.ng a = na at *
 generalize F.ng b = nb at *
 have q1 : ((na != nb) != true) = decide (na = nb):=by cases na <;> cases nb <;> rfl
 have q2 : ((na != nb) != false) = !decide (na = nb):=by cases na <;> cases nb <;> rfl
 simp only [DyA,A3,numA] at *
 cases minus
 ·rw [q2]
  simp only [Bool.false_eq_true,if_false]
  repeat' (first|simp (maxSteps:=9^7) only [seval,exC,Zej,v1,v2,m1,g1,g2]|simp (maxSteps:=9^7) (disch:=first|with_reducible assumption|omega) only [dxB]|(simp only [kdB];split)|(simp only [kvB];split))
  all_goals exact ⟨_,rfl,z3,by cases na <;> cases nb <;> rfl⟩
 ·rw [q1]
  simp only [if_true]
  repeat' (first|simp (maxSteps:=9^7) only [seval,exC,Zej,v1,v2,m1,n1,g1,g2]|simp (maxSteps:=9^7) (disch:=first|with_reducible assumption|omega) only [dxB]|(simp only [kdB];split)|(simp only [kvB];split))
  all_goals exact ⟨_,rfl,z3,by cases na <;> cases nb <;> rfl⟩
def cellsN (z : Bool) (x : Dy × Bool) : List AV:=[.bool x.1.n,D z (dl x.1.m),.int .i64 x.1.e,.bool x.2]
theorem ZqG (e : Env) (h : Heap) : evL G T ZhJ e h = kS G T (evL G T Zck (keepE [0,1,4,6,7,8] e) h) ZhJ:=Zad G T rfl e h
section
variable (a1 a2 a3 a4 b1 b2 b3 b4 c1 c2 c3 c4 : AV) (k : IntKind) (h : Mem) (l : List AV)
theorem ZzR : iaddrV 4 (.imm 2 [a1,a2,a3,a4,b1,b2,b3,b4]) (.int k 0) = some (.iptr [a1,a2,a3,a4,b1,b2,b3,b4] 0):=rfl
theorem ZzS : iaddrV 4 (.imm 2 [a1,a2,a3,a4,b1,b2,b3,b4]) (.int k 1) = some (.iptr [a1,a2,a3,a4,b1,b2,b3,b4] 4):=rfl
theorem r3_0 : rdAt G h 3 (.iptr (a1 :: a2 :: a3 :: l) 0) = some [a1,a2,a3]:=by simp [rdAt]
theorem r3_4 : rdAt G h 3 (.iptr (a1 :: a2 :: a3 :: a4 :: b1 :: b2 :: b3 :: l) 4) = some [b1,b2,b3]:=by simp [rdAt]
theorem r1_3 : rdAt G h 1 (.iptr (a1 :: a2 :: a3 :: a4 :: l) 3) = some [a4]:=by simp [rdAt]
theorem r1_7 : rdAt G h 1 (.iptr (a1 :: a2 :: a3 :: a4 :: b1 :: b2 :: b3 :: b4 :: l) 7) = some [b4]:=by simp [rdAt]
end
theorem Zzm (d : Dy) : addD ⟨false,0,0⟩ d = d:=by unfold addD; rw [if_pos rfl]
theorem ZoJ (d : Dy) : (d.m = 0∧sgnD d = 0)∨(d.m≠0∧¬ sgnD d = 0):=by
 by_cases h : d.m = 0
 ·exact Or.inl ⟨h,Zmm.2 h⟩
 ·exact Or.inr ⟨h,fun q => h (Zmm.1 q)⟩
set_option maxHeartbeats 8000000 in
theorem Zpt (J : Al G T g) {md : Int} {z y : Bool} {x w : Dy × Bool} (hx : Bd x.1 1073741824) (hw : Bd w.1 1073741824) :
  ∃ z',run G T 275 [.int .u8 md,.imm 2 (cellsN z x ++ cellsN y w)] = some (.tup [DyA z' (addD x.1 w.1),.bool (zsg md x w)]):=by
 rw [Zab G T J.J.ref12_Sum]
 obtain ⟨z1,d1⟩:=Zcg J (z:=true) (y:=z) (a:=⟨false,0,0⟩) (b:=x.1) ⟨by simp only [Zak]; omega,by simp,by simp⟩ (hx.mono (by decide))
 rw [Zzm,ZCz] at d1
 obtain ⟨z2,d2⟩:=Zcg J (z:=z1) (y:=y) (a:=x.1) (b:=w.1) (hx.mono (by decide)) (hw.mono (by decide))
 have s1:=ZbA J (z:=z) (d:=x.1)
 have s2:=ZbA J (z:=y) (d:=w.1)
 refine ⟨z2,?_⟩
 unfold zsg cellsN
 have c1:=ZoJ x.1
 have c2:=ZoJ w.1
 generalize addD x.1 w.1 = s at *
 clear hx hw
 obtain ⟨d,n⟩:=x
 obtain ⟨e,k⟩:=w
 simp only at *
 rcases c1 with ⟨c1,q1⟩ | ⟨c1,q1⟩
 ·rw [q1] at s1
  rcases c2 with ⟨c2,q2⟩ | ⟨c2,q2⟩
  ·rw [q2] at s2
   by_cases hk : k = n
   ·subst hk
    rw [if_pos ⟨c1,c2,rfl⟩]
    simp only [DyA,A3,List.cons_append,List.nil_append] at *
    repeat' (first|simp (maxSteps:=9^7) only [seval,exC,Zdz,Zne,ZqG,Zck,ZzR,ZzS,fa_i,r3_0,r3_4,r1_3,r1_7,wr_1,wr1,wr_2,wr2,d1,d2,s1,s2]|simp (maxSteps:=9^7) (disch:=first|with_reducible assumption|omega) only [dxB]|(simp only [kdB];split)|(simp only [kvB];split))
   ·rw [if_neg (fun h => hk h.2.2.symm)]
    simp only [DyA,A3,List.cons_append,List.nil_append] at *
    repeat' (first|simp (maxSteps:=9^7) only [seval,exC,Zdz,Zne,ZqG,Zck,ZzR,ZzS,fa_i,r3_0,r3_4,r1_3,r1_7,wr_1,wr1,wr_2,wr2,d1,d2,s1,s2,hk]|simp (maxSteps:=9^7) (disch:=first|with_reducible assumption|omega) only [dxB]|(simp only [kdB];split)|(simp only [kvB];split))
  ·rw [if_neg (fun h => c2 h.2.1)]
   generalize sgnD e = t at *
   simp only [DyA,A3,List.cons_append,List.nil_append] at *
   repeat' (first|simp (maxSteps:=9^7) only [seval,exC,Zdz,Zne,ZqG,Zck,ZzR,ZzS,fa_i,r3_0,r3_4,r1_3,r1_7,wr_1,wr1,wr_2,wr2,d1,d2,s1,s2,q2]|simp (maxSteps:=9^7) (disch:=first|with_reducible assumption|omega) only [dxB]|(simp only [kdB];split)|(simp only [kvB];split))
 ·rw [if_neg (fun h => c1 h.1)]
  generalize sgnD d = t at *
  simp only [DyA,A3,List.cons_append,List.nil_append] at *
  repeat' (first|simp (maxSteps:=9^7) only [seval,exC,Zdz,Zne,ZqG,Zck,ZzR,ZzS,fa_i,r3_0,r3_4,r1_3,r1_7,wr_1,wr1,wr_2,wr2,d1,d2,s1,q1]|simp (maxSteps:=9^7) (disch:=first|with_reducible assumption|omega) only [dxB]|(simp only [kdB];split)|(simp only [kvB];split))
theorem Zgb (J : Al G T g) (F : Fm) {md : Int} (hm : 1≤md∧md≤5) {z y s : Bool} {d b : Dy} (hd : Bd d 65537) (hb : Bd b 65537) (b0 : b.m≠0) :
  run G T 276 [.int .u8 F.u,.int .u8 md,DyA z d,.bool s,DyA y b] = some (.tup [.int .u64 ((ptQ F md d s b).1 : Int),.int .u8 ((ptQ F md d s b).2 : Int)]):=by
 rw [Zab G T J.J.Zgb]
 have s1:=ZbA J (z:=z) (d:=d)
 have c1:=ZoJ d
 unfold ptQ
 rcases c1 with ⟨c1,q1⟩ | ⟨c1,q1⟩
 ·rw [q1] at s1
  rw [if_pos c1]
  have w1:=Zbd J F (n:=s) (w:=0)
  rw [Nat.zero_mod,Nat.zero_add] at w1
  generalize F.sgn s = S at *
  simp only [DyA,A3,cast0] at *
  repeat' (first|simp (maxSteps:=9^7) only [seval,exC,ZcC,s1,w1]|simp (maxSteps:=9^7) (disch:=first|with_reducible assumption|omega) only [dxB]|(simp only [kdB];split)|(simp only [kvB];split))
 ·rw [if_neg c1]
  have hbl:=hd.bl
  have hbb:=hb.bl
  have r1:=Zoz J F hm (z:=z) (y:=y) c1 b0 (hd.mono (by decide)) (hb.mono (by decide)) (by omega) (by omega)
  generalize quoW F md d b = S at *
  generalize sgnD d = t at *
  simp only [DyA,A3] at *
  repeat' (first|simp (maxSteps:=9^7) only [seval,exC,ZcC,s1,q1,r1]|simp (maxSteps:=9^7) (disch:=first|with_reducible assumption|omega) only [dxB]|(simp only [kdB];split)|(simp only [kvB];split))
end Go.Cv
namespace Go.Cv
variable {G : Nat→Option (List AV)} {T : Tbl} {g : Nat}
def tw (F : Fm) (md : Int) (x y : Dy × Bool) (b : Dy) : Nat × Nat:=ptQ F md (addD x.1 y.1) (zsg md x y) b
theorem ZEb (F : Fm) (md : Int) {x y : Dy × Bool} {b : Dy} (hx : Nz x.1) (hy : Nz y.1) : tw F md x y b = tw F md y x b:=by
 unfold tw zsg
 rw [ZqR hx hy]
 by_cases h : x.1.m = 0∧y.1.m = 0∧x.2 = y.2
 ·rw [if_pos h,if_pos ⟨h.2.1,h.1,h.2.2.symm⟩,h.2.2]
 ·rw [if_neg h,if_neg (fun q => h ⟨q.2.1,q.1,q.2.2.symm⟩)]
theorem tw_s (F : Fm) (md : Int) {x y : Dy × Bool} {b : Dy} {s : Bool} (h : (addD x.1 y.1).m = 0→s = zsg md x y) : ptQ F md (addD x.1 y.1) s b = tw F md x y b:=by
 unfold tw ptQ
 by_cases h0 : (addD x.1 y.1).m = 0
 ·rw [if_pos h0,if_pos h0,h h0]
 ·rw [if_neg h0,if_neg h0]
theorem ZxV {d : Dy} : negD (negD d) = d:=by
 unfold negD
 by_cases h : d.m = 0
 ·rw [if_pos h,if_pos h]
 ·rw [if_neg h,if_neg h]; simp
def mulR (F : Fm) (md : Int) (a b c d : Nat) : (Nat × Nat) × (Nat × Nat):=(tw F md (tm F a c false) (tm F b d true) oneD,tw F md (tm F a d false) (tm F b c false) oneD)
def divR (F : Fm) (md : Int) (a b c d : Nat) : (Nat × Nat) × (Nat × Nat):=(tw F md (tm F a c false) (tm F b d false) (sqD F c d),tw F md (tm F b c false) (tm F a d true) (sqD F c d))
def mulZ (F : Fm) (md : Int) (a b c d : Nat) : (Nat × Nat) × (Nat × Nat):=if smS F a b c d then smW F md a b c d else mulR F md a b c d
def divZ (F : Fm) (md : Int) (a b c d : Nat) : (Nat × Nat) × (Nat × Nat):=if sdS F a b c d then sdW F md a b c d else divR F md a b c d
theorem ZEm : Nz oneD:=⟨fun h => absurd h (by decide),fun _ => rfl⟩
theorem ZEg {K : Nat} (h : 1≤K) : Bd oneD K:=by
 have : blen 1 = 1:=by decide
 exact ⟨by show blen 1≤K; omega,by show -(K : Int)≤0; omega,by show (0 : Int)≤K; omega⟩
theorem ZDU (F : Fm) {c d : Nat} (hc : c < 2 * F.sg) (hd : d < 2 * F.sg) (h : zcl (F.cls c) (F.cls d) = 2) : (sqD F c d).m≠0:=by
 have hf:=Zmy F (a:=c) (b:=d)
 obtain ⟨fc,fd⟩:=hf.2 (by omega)
 intro h0
 obtain ⟨L,l1,l2⟩ : ∃ L : Int,LoE (F.vl c) L∧LoE (F.vl d) L:=⟨F.low,Zbe fc,Zbe fd⟩
 have e:=ZFr F l1 l2
 rw [ZaO h0] at e
 have n1:=Zjx (iv (F.vl c) L)
 have n2:=Zjx (iv (F.vl d) L)
 have z : ∀ {w : Nat},w < 2 * F.sg→F.fin w→LoE (F.vl w) L→iv (F.vl w) L * iv (F.vl w) L = 0→F.cls w = 1:=fun {w} hw fw lw q => by
  have q0 : iv (F.vl w) L = 0:=by rcases Int.mul_eq_zero.1 q with q | q <;> exact q
  have:=Zrv (ZfJ F w) (b:=⟨false,0,0⟩) ⟨fun _ => rfl,fun h => absurd rfl h⟩ lw (Or.inl rfl) (by rw [q0,ZaO rfl])
  exact (Zjb hw fw).2 (by rw [this])
 have c1:=z hc fc l1 (by omega)
 have c2:=z hd fd l2 (by omega)
 unfold zcl at h
 rw [c1,c2] at h
 simp at h
set_option maxHeartbeats 8000000 in
theorem ZnT (J : Al G T g) (F : Fm) {md : Int} (hm : 1≤md∧md≤5) {a b c d : Nat} (ha : a < 2 * F.sg) (hb : b < 2 * F.sg) (hc : c < 2 * F.sg) (hd : d < 2 * F.sg) :
  run G T 252 [.int .u8 F.u,.int .u8 md,zA a b,zA c d] = some (.tup [zrA (mulZ F md a b c d).1 (mulZ F md a b c d).2,.int .i64 0]):=by
 rw [Zab G T J.J.ZnT]
 have s1:=Zlp J F hm ha hb hc hd
 unfold mulZ
 by_cases hs : smS F a b c d = true
 ·rw [if_pos hs]
  rw [hs] at s1
  generalize smW F md a b c d = S at *
  simp only [zA,zrA] at *
  repeat' (first|simp (maxSteps:=9^7) only [seval,exC,Zgq,s1]|simp (maxSteps:=9^7) (disch:=first|with_reducible assumption|omega) only [dxB]|(simp only [kdB];split)|(simp only [kvB];split))
 ·rw [if_neg hs]
  rw [Bool.not_eq_true] at hs
  rw [hs] at s1
  obtain ⟨z1,y1,g1⟩:=ZcR J F ha hb
  obtain ⟨z2,y2,g2⟩:=ZcR J F hc hd
  obtain ⟨z,y,s,t,t1,e1,e2⟩:=Zdt J F (md:=md) (z1:=z1) (z2:=y1) (y1:=z2) (y2:=y2) (n1:=F.ng a) (n2:=F.ng b) (k1:=F.ng c) (k2:=F.ng d) (ZfJ F a) (ZfJ F b) (ZfJ F c) (ZfJ F d) (ZcF F a) (ZcF F b) (ZcF F c) (ZcF F d)
  obtain ⟨zo,i1⟩:=ZwX J
  have b1:=ZdN F a c
  have b2:=(ZdN F b d).neg
  have b3:=ZdN F a d
  have b4:=ZdN F b c
  have k1:=Zet J F hm (z:=z) (z':=y) (y:=zo) (s:=s) (t:=t) (ZgM (Zcx (F.vl a) (F.vl c)) (Zpa (Zcx (F.vl b) (F.vl d)))) (ZgM (Zcx (F.vl a) (F.vl d)) (Zcx (F.vl b) (F.vl c))) ZEm ((ZeC b1 b2).mono (by decide)) ((ZeC b3 b4).mono (by decide)) (ZEg (by decide)) (by decide)
  have r1 : ptQ F md (addD (mulD (F.vl a) (F.vl c)) (negD (mulD (F.vl b) (F.vl d)))) s oneD = (mulR F md a b c d).1:=by
   have:=tw_s F md (x:=tm F a c false) (y:=tm F b d true) (b:=oneD) (s:=s) (fun h => by
    have h2:=e1 h
    unfold tm
    simp only [Bool.false_eq_true,if_false,if_true,Bool.bne_false,Bool.bne_true]
    exact h2)
   exact this
  have r2 : ptQ F md (addD (mulD (F.vl a) (F.vl d)) (mulD (F.vl b) (F.vl c))) t oneD = (mulR F md a b c d).2:=by
   have:=tw_s F md (x:=tm F a d false) (y:=tm F b c false) (b:=oneD) (s:=t) (fun h => by
    have h2:=e2 h
    unfold tm
    simp only [Bool.false_eq_true,if_false,Bool.bne_false]
    exact h2)
   exact this
  rw [r1,r2] at k1
  clear r1 r2 e1 e2 b1 b2 b3 b4
  generalize mulR F md a b c d = R at *
  generalize smW F md a b c d = S at *
  generalize addD (mulD (F.vl a) (F.vl c)) (negD (mulD (F.vl b) (F.vl d))) = X at *
  generalize addD (mulD (F.vl a) (F.vl d)) (mulD (F.vl b) (F.vl c)) = Y at *
  generalize oneD = one at *
  generalize F.vl a = va at *
  generalize F.vl b = vb at *
  generalize F.vl c = vc at *
  generalize F.vl d = vd at *
  generalize F.ng a = na at *
  generalize F.ng b = nb at *
  generalize F.ng c = nc at *
  generalize F.ng d = nd at *
  simp only [zA,zrA,gaussA,workA,DyA,A3] at *
  repeat' (first|simp (maxSteps:=9^7) only [seval,exC,Zgq,s1,g1,g2,t1,i1,k1]|simp (maxSteps:=9^7) (disch:=first|with_reducible assumption|omega) only [dxB]|(simp only [kdB];split)|(simp only [kvB];split))
theorem ZHb (x y z w : AV) : fieldA true 0 3 (.agg [x,y,z,w]) = some (.agg [x,y,z]):=rfl
set_option maxHeartbeats 8000000 in
theorem ZnS (J : Al G T g) (F : Fm) {md : Int} (hm : 1≤md∧md≤5) {a b c d : Nat} (ha : a < 2 * F.sg) (hb : b < 2 * F.sg) (hc : c < 2 * F.sg) (hd : d < 2 * F.sg) :
  run G T 257 [.int .u8 F.u,.int .u8 md,zA a b,zA c d] = some (.tup [zrA (divZ F md a b c d).1 (divZ F md a b c d).2,.int .i64 0]):=by
 rw [Zab G T J.J.ZnS]
 have s1:=Zlo J F hm ha hb hc hd
 unfold divZ
 by_cases hs : sdS F a b c d = true
 ·rw [if_pos hs]
  rw [hs] at s1
  generalize sdW F md a b c d = S at *
  simp only [zA,zrA] at *
  repeat' (first|simp (maxSteps:=9^7) only [seval,exC,Zgp,s1]|simp (maxSteps:=9^7) (disch:=first|with_reducible assumption|omega) only [dxB]|(simp only [kdB];split)|(simp only [kvB];split))
 ·rw [if_neg hs]
  have hz : zcl (F.cls c) (F.cls d) = 2:=by
   unfold sdS at hs
   simp only [Bool.not_eq_true',decide_eq_false_iff_not,Decidable.not_not] at hs
   exact hs.2
  have hq:=ZDU F hc hd hz
  rw [Bool.not_eq_true] at hs
  rw [hs] at s1
  obtain ⟨z1,y1,g1⟩:=ZcR J F ha hb
  obtain ⟨z2,y2,g2⟩:=ZcR J F hc hd
  obtain ⟨u1,m1⟩:=Zbc J (z:=z2) (y:=z2) (n:=F.ng c) (k:=F.ng c) (ZfJ F c) (ZfJ F c) ((ZcF F c).mono (by decide)) ((ZcF F c).mono (by decide))
  obtain ⟨u2,m2⟩:=Zbc J (z:=y2) (y:=y2) (n:=F.ng d) (k:=F.ng d) (ZfJ F d) (ZfJ F d) ((ZcF F d).mono (by decide)) ((ZcF F d).mono (by decide))
  have bc:=ZdN F c c
  have bd:=ZdN F d d
  obtain ⟨u3,q1⟩:=Zng J (z:=u1) (y:=u2) (bc.mono (by decide)) (bd.mono (by decide)) (Zex (Zcx (F.vl c) (F.vl c)) (bc.mono (by decide))) (Zex (Zcx (F.vl d) (F.vl d)) (bd.mono (by decide)))
  rw [show addD (mulD (F.vl c) (F.vl c)) (mulD (F.vl d) (F.vl d)) = sqD F c d from rfl] at q1
  obtain ⟨u4,n1⟩:=Zes J (z:=y2) (n:=F.ng d) (ZfJ F d) ((ZcF F d).mono (by decide))
  obtain ⟨z,y,s,t,t1,e1,e2⟩:=Zdt J F (md:=md) (z1:=z1) (z2:=y1) (y1:=z2) (y2:=u4) (n1:=F.ng a) (n2:=F.ng b) (k1:=F.ng c) (k2:=!F.ng d) (ZfJ F a) (ZfJ F b) (ZfJ F c) (Zpa (ZfJ F d)) (ZcF F a) (ZcF F b) (ZcF F c) (ZcF F d).neg
  simp only [ZzZ,ZxV] at t1 e1 e2
  have b1:=ZdN F a c
  have b2:=ZdN F b d
  have b3:=(ZdN F a d).neg
  have b4:=ZdN F b c
  have k1:=Zet J F hm (z:=z) (z':=y) (y:=u3) (s:=s) (t:=t) (ZgM (Zcx (F.vl a) (F.vl c)) (Zcx (F.vl b) (F.vl d))) (ZgM (Zpa (Zcx (F.vl a) (F.vl d))) (Zcx (F.vl b) (F.vl c))) (ZCC F c d) ((ZeC b1 b2).mono (by decide)) ((ZeC b3 b4).mono (by decide)) ((ZeC bc bd).mono (by decide)) hq
  have r1 : ptQ F md (addD (mulD (F.vl a) (F.vl c)) (mulD (F.vl b) (F.vl d))) s (sqD F c d) = (divR F md a b c d).1:=by
   have:=tw_s F md (x:=tm F a c false) (y:=tm F b d false) (b:=sqD F c d) (s:=s) (fun h => by
    have h2:=e1 h
    unfold tm
    simp only [Bool.false_eq_true,if_false,Bool.bne_false]
    rw [show (F.ng b != F.ng d) = !(F.ng b != !F.ng d) by cases F.ng b <;> cases F.ng d <;> rfl]
    exact h2)
   exact this
  have r2 : ptQ F md (addD (negD (mulD (F.vl a) (F.vl d))) (mulD (F.vl b) (F.vl c))) t (sqD F c d) = (divR F md a b c d).2:=by
   have:=tw_s F md (x:=tm F a d true) (y:=tm F b c false) (b:=sqD F c d) (s:=t) (fun h => by
    have h2:=e2 h
    unfold tm
    simp only [Bool.false_eq_true,if_false,if_true,Bool.bne_false,Bool.bne_true]
    rw [show (!(F.ng a != F.ng d)) = (F.ng a != !F.ng d) by cases F.ng a <;> cases F.ng d <;> rfl]
    exact h2)
   rw [show (divR F md a b c d).2 = tw F md (tm F b c false) (tm F a d true) (sqD F c d) from rfl,ZEb F md (ZgL F b c false).2 (ZgL F a d true).2]
   exact this
  rw [r1,r2] at k1
  clear r1 r2 e1 e2 b1 b2 b3 b4 bc bd hq hz
  generalize divR F md a b c d = R at *
  generalize sdW F md a b c d = S at *
  generalize addD (mulD (F.vl a) (F.vl c)) (mulD (F.vl b) (F.vl d)) = X at *
  generalize addD (negD (mulD (F.vl a) (F.vl d))) (mulD (F.vl b) (F.vl c)) = Y at *
  generalize sqD F c d = by' at *
  generalize mulD (F.vl c) (F.vl c) = cc at *
  generalize mulD (F.vl d) (F.vl d) = dd at *
  generalize negD (F.vl d) = nvd at *
  generalize (!F.ng d) = nnd at *
  generalize (F.ng c != F.ng c) = x1 at *
  generalize (F.ng d != F.ng d) = x2 at *
  generalize F.vl a = va at *
  generalize F.vl b = vb at *
  generalize F.vl c = vc at *
  generalize F.vl d = vd at *
  generalize F.ng a = na at *
  generalize F.ng b = nb at *
  generalize F.ng c = nc at *
  generalize F.ng d = nd at *
  simp only [zA,zrA,gaussA,workA,numA,DyA,A3] at *
  repeat' (first|simp (maxSteps:=9^7) only [seval,exC,Zgp,ZHb,s1,g1,g2,m1,m2,q1,n1,t1,k1]|simp (maxSteps:=9^7) (disch:=first|with_reducible assumption|omega) only [dxB]|(simp only [kdB];split)|(simp only [kvB];split))
theorem Zfo (J : Al G T g) (F : Fm) {a b c d : Nat} (ha : a < 2 * F.sg) (hb : b < 2 * F.sg) (hc : c < 2 * F.sg) (hd : d < 2 * F.sg) (fa : F.fin a) (fb : F.fin b) (fc : F.fin c) (fd : F.fin d) :
  ∃ z y u v w,run G T 281 [.int .u8 F.u,zA a b,zA c d] = some (.tup [gaussA z y (tm F a c false) (tm F b d false),gaussA u v (tm F b c false) (tm F a d true),DyA w (sqD F c d)]):=by
 rw [Zab G T J.J.Zfo]
 obtain ⟨z,h1⟩:=ZeV J F (minus:=false) ha hc fa fc
 obtain ⟨y,h2⟩:=ZeV J F (minus:=false) hb hd fb fd
 obtain ⟨u,h3⟩:=ZeV J F (minus:=false) hb hc fb fc
 obtain ⟨v,h4⟩:=ZeV J F (minus:=true) ha hd fa fd
 obtain ⟨z1,v1⟩:=Zbl J F (Zbm hc) fc
 obtain ⟨z2,v2⟩:=Zbl J F (Zbm hd) fd
 rw [← Zbu fc] at v1
 rw [← Zbu fd] at v2
 obtain ⟨z3,m1⟩:=ZsJ J (z:=z1) (y:=z1) ((ZcF F c).mono (by decide)) ((ZcF F c).mono (by decide))
 obtain ⟨z4,m2⟩:=ZsJ J (z:=z2) (y:=z2) ((ZcF F d).mono (by decide)) ((ZcF F d).mono (by decide))
 obtain ⟨z5,q1⟩:=Zcg J (z:=z3) (y:=z4) (a:=mulD (F.vl c) (F.vl c)) (b:=mulD (F.vl d) (F.vl d)) ((ZdN F c c).mono (by decide)) ((ZdN F d d).mono (by decide))
 rw [show addD (mulD (F.vl c) (F.vl c)) (mulD (F.vl d) (F.vl d)) = sqD F c d from rfl] at q1
 refine ⟨z,y,u,v,z5,?_⟩
 generalize sqD F c d = q at *
 generalize mulD (F.vl c) (F.vl c) = cc at *
 generalize mulD (F.vl d) (F.vl d) = dd at *
 generalize F.vl c = vc at *
 generalize F.vl d = vd at *
 generalize tm F a c false = t1 at *
 generalize tm F b d false = t2 at *
 generalize tm F b c false = t3 at *
 generalize tm F a d true = t4 at *
 simp only [zA,gaussA,numA,DyA,A3] at *
 repeat' (first|simp (maxSteps:=9^7) only [seval,exC,Zdp,h1,h2,h3,h4,v1,v2,m1,m2,q1]|simp (maxSteps:=9^7) (disch:=first|with_reducible assumption|omega) only [dxB]|(simp only [kdB];split)|(simp only [kvB];split))
theorem ZGx (F : CallF) (d : Option Nat) (os : List IOper) (e : Env) (h : Heap) (n : Nat) (zero : List AV) (ps : List (Nat × Nat × IOpd)) : evOps G F (⟨d,.bslice n 4 zero ps,none⟩ :: os) e h =
  kBs G F (fillA (repA n zero) (ps.map fun (o,n,x) => (o,n,opd e x))) (.own h.b.length 0 n 4) d os e h:=Zin G F d os e h n 4 zero ps
theorem ZFn (b : Nat) (k : IntKind) : iaddrAV 2 4 (.ptr b 0) (.int k 0) = some (.ptr b 0):=rfl
theorem ZFo (b : Nat) (k : IntKind) : iaddrAV 2 4 (.ptr b 0) (.int k 1) = some (.ptr b 4):=rfl
def eqsA (neg : Bool) (ls : List Bool) : AV→AV→Option AV
 | .agg a,.agg b => if (kindsA ls a && kindsA ls b) = true then (eqCells a b).map fun r => .bool (if neg then !r else r) else none
 | _,_ => none
theorem ZuW (F : CallF) (d : Option Nat) (os : List IOper) (e : Env) (h : Heap) (neg : Bool) (ls : List Bool) (x y : IOpd) : evOps G F (⟨d,.eqs neg ls x y,none⟩ :: os) e h = kV G F (eqsA neg ls (opd e x) (opd e y)) d os e h:=by
 rw [Zbs G F d _ os e h rfl]
 simp only [evQ]
 cases opd e x <;> cases opd e y <;> try rfl
 simp only [eqsA]
 split
 ·cases eqCells _ _ <;> rfl
 ·rfl
set_option maxHeartbeats 16000000 in
theorem ZoC (J : Al G T g) (F : Fm) {md : Int} (hm : 1≤md∧md≤5) {a b c d : Nat} (ha : a < 2 * F.sg) (hb : b < 2 * F.sg) (hc : c < 2 * F.sg) (hd : d < 2 * F.sg) :
  run G T 258 [.int .u8 F.u,.int .u8 md,zA a b,zA c d] = some (zrA (divZ F md a b c d).1 (divZ F md a b c d).2):=by
 rw [Zab G T J.J.ZoC]
 have s1:=ZoB J F hm ha hb hc hd
 unfold divZ
 by_cases hs : sdS F a b c d = true
 ·rw [if_pos hs]
  rw [hs] at s1
  generalize sdW F md a b c d = S at *
  simp only [zA,zrA] at *
  repeat' (first|simp (maxSteps:=9^7) only [seval,exC,ZgF,s1]|simp (maxSteps:=9^7) (disch:=first|with_reducible assumption|omega) only [dxB]|(simp only [kdB];split)|(simp only [kvB];split))
 ·rw [if_neg hs]
  have hz : (zcl (F.cls a) (F.cls b)≤2∧zcl (F.cls c) (F.cls d) = 2):=by
   unfold sdS at hs
   simpa using hs
  obtain ⟨fa,fb⟩:=(Zmy F).2 hz.1
  obtain ⟨fc,fd⟩:=(Zmy F (a:=c) (b:=d)).2 (by omega)
  have hq:=ZDU F hc hd hz.2
  rw [Bool.not_eq_true] at hs
  rw [hs] at s1
  obtain ⟨z,y,u,v,w,p1⟩:=Zfo J F ha hb hc hd fa fb fc fd
  have b1:=ZgL F a c false
  have b2:=ZgL F b d false
  have b3:=ZgL F b c false
  have b4:=ZgL F a d true
  have bq:=ZGR F c d
  obtain ⟨w1,q1⟩:=Zpt J (md:=md) (z:=z) (y:=y) (b1.1.mono (by decide)) (b2.1.mono (by decide))
  obtain ⟨w2,q2⟩:=Zpt J (md:=md) (z:=u) (y:=v) (b3.1.mono (by decide)) (b4.1.mono (by decide))
  have r1:=Zgb J F hm (z:=w1) (y:=w) (s:=zsg md (tm F a c false) (tm F b d false)) ((ZeC b1.1 b2.1).mono (by decide)) (bq.mono (by decide)) hq
  have r2:=Zgb J F hm (z:=w2) (y:=w) (s:=zsg md (tm F b c false) (tm F a d true)) ((ZeC b3.1 b4.1).mono (by decide)) (bq.mono (by decide)) hq
  rw [show ptQ F md (addD (tm F a c false).1 (tm F b d false).1) (zsg md (tm F a c false) (tm F b d false)) (sqD F c d) = (divR F md a b c d).1 from rfl] at r1
  rw [show ptQ F md (addD (tm F b c false).1 (tm F a d true).1) (zsg md (tm F b c false) (tm F a d true)) (sqD F c d) = (divR F md a b c d).2 from rfl] at r2
  clear b1 b2 b3 b4 hz bq hq
  generalize divR F md a b c d = R at *
  generalize sdW F md a b c d = S at *
  generalize zsg md (tm F a c false) (tm F b d false) = g1 at *
  generalize zsg md (tm F b c false) (tm F a d true) = g2 at *
  generalize addD (tm F a c false).1 (tm F b d false).1 = X at *
  generalize addD (tm F b c false).1 (tm F a d true).1 = Y at *
  generalize tm F a c false = t1 at *
  generalize tm F b d false = t2 at *
  generalize tm F b c false = t3 at *
  generalize tm F a d true = t4 at *
  generalize sqD F c d = one at *
  simp only [zA,zrA,gaussA,cellsN,List.cons_append,List.nil_append,DyA,A3] at *
  repeat' (first|simp (maxSteps:=9^7) only [seval,exC,ZgF,ZGx,ZbM,ZFn,ZFo,s1,p1,q1,q2,r1,r2]|simp (maxSteps:=9^7) (disch:=first|with_reducible assumption|omega) only [dxB]|(simp only [kdB];split)|(simp only [kvB];split))
end Go.Cv
namespace Go.Cv
variable {G : Nat→Option (List AV)} {T : Tbl} {g : Nat}
section
variable (a b c d e f : AV) (k : IntKind)
end
end Go.Cv
namespace Go.Cv
variable {G : Nat→Option (List AV)} {T : Tbl} {g : Nat}
def pl (F : Fm) (w : Nat) : Int:=if F.ng w then -((w % F.sg : Nat) : Int) else ((w % F.sg : Nat) : Int)
theorem ZGL (F : Fm) {w : Nat} (hw : w < 2 * F.sg) (h5 : F.cls w≠5) : w % F.sg≤F.i0∧(F.fin w↔w % F.sg < F.i0):=by
 obtain ⟨h1,h2,h3,h4⟩:=Zko hw
 have hp:=Nat.two_pow_pos F.fr
 have e1 : F.i0 = 2 ^ F.fr * F.most:=Nat.mul_comm ..
 have hlt : F.ex w < F.most→2 ^ F.fr * F.ex w + F.fc w < 2 ^ F.fr * F.most:=fun h => by
  have:=Nat.mul_le_mul_left (2 ^ F.fr) (show F.ex w + 1≤F.most from h)
  rw [Nat.mul_add] at this; omega
 unfold Fm.fin
 rw [h2,e1]
 by_cases h : F.ex w < F.most
 ·exact ⟨Nat.le_of_lt (hlt h),fun _ => hlt h,fun _ => h⟩
 ·have he : F.ex w = F.most:=by omega
  have hm0 : F.most≠0:=by cases F <;> decide
  have hf : F.fc w = 0:=by
   by_cases q : F.fc w = 0
   ·exact q
   ·exfalso; apply h5; unfold Fm.cls; rw [if_neg (by omega),if_neg h,if_neg q]
  rw [he,hf]
  exact ⟨Nat.le_refl _,fun q => absurd q (Nat.lt_irrefl _),fun q => absurd q (Nat.lt_irrefl _)⟩
theorem ZGe (F : Fm) {w : Nat} (hw : w < 2 * F.sg) : w = w % F.sg + F.sgn (F.ng w):=(Zko hw).1
def Near (F : Fm) (a b : Nat) : Prop:=a = b∨(F.cls a = 1∧F.cls b = 1)
theorem Zxz {d : Dy} {L : Int} (hz : Nz d) (hl : LoE d L) (h : iv d L = 0) : d.m = 0:=by
 have:=Zrv hz (b:=⟨false,0,0⟩) ⟨fun _ => rfl,fun h => absurd rfl h⟩ hl (Or.inl rfl) (by rw [h,ZaO rfl])
 rw [this]
theorem Zym (F : Fm) (md : Int) {X d b : Dy} (nX : Nz X) (nd : Nz d) (nb : Nz b) (d0 : d.m≠0) (b0 : b.m≠0) {K L : Int} (lX : LoE X (K + L)) (ld : LoE d K) (lb : LoE b L) (h : iv X (K + L) = iv d K * iv b L) : quoW F md X b = rndW F md d:=by
 obtain ⟨m1,m2⟩:=ZbU ld lb
 have e : X = mulD d b:=Zrv nX (Zcx d b) lX m2 (by rw [h,m1])
 rw [e]
 obtain ⟨n,m,x⟩:=d
 obtain ⟨n',m',x'⟩:=b
 exact ZAi F md (nd.2 d0) (nb.2 b0)
theorem ZAy (F : Fm) (md : Int) {w : Nat} (hw : w < 2 * F.sg) (hf : F.fin w) (h0 : (F.vl w).m≠0) : rndW F md (F.vl w) = (w,0):=by
 have h5 : F.cls w≠5:=by have:=Zap.1 hf; omega
 have h1:=(ZGL F hw h5).2.1 hf
 have e:=ZGe F hw
 have n0 : w % F.sg≠0:=fun q => by
  rw [q,Nat.zero_add] at e
  apply h0
  rw [e,(ZeA F _).2.2.2]
 have:=(Zmh F md (F.ng w) h1 n0).1
 rw [← e] at this
 rw [Zbu hf]; exact this
theorem ZAa {d : Dy} (h : Nz d) : mulD d oneD = d:=by
 by_cases h0 : d.m = 0
 ·rw [Zjg (Or.inl h0),h.1 h0]
 ·unfold mulD oneD
  obtain ⟨n,m,e⟩:=d
  simp only [Bool.bne_false,Nat.mul_one,Int.add_zero]
  exact Zoi (h.2 h0)
theorem Zyo (F : Fm) {md : Int} {a b : Dy} (na : Nz a) (h0 : a.m≠0) (h1 : b.m≠0) (hf : (quoW F md a b).2 = 0) : F.fin (quoW F md a b).1∧(quoW F md a b).1 < 2 * F.sg∧a = mulD (F.vl (quoW F md a b).1) b:=by
 obtain ⟨K,N,kk,u,f1,f2,f3,f4,_,_,_,f5⟩:=ZAh F h0 h1 (Or.inl hf)
 have f5:=f5 hf
 refine ⟨f1,f2,?_⟩
 rw [Zbu f1,f3]
 have lb : LoE b b.e:=Or.inr (Int.le_refl _)
 have lv : LoE (mkD (a.n != b.n) K u) (u - kk):=ZcY (by omega)
 obtain ⟨m1,m2⟩:=ZbU lv lb
 have la : LoE a (u - kk + b.e):=Or.inr (by omega)
 refine Zrv na (Zcx _ _) la m2 ?_
 rw [m1,ZhN (by omega)]
 unfold iv
 rw [show (a.e - (u - kk + b.e)).toNat = N by omega,show (u - (u - (kk : Int))).toNat = kk by omega,show (b.e - b.e).toNat = 0 by omega,Nat.pow_zero,Nat.mul_one,f5]
 have e : K * b.m * 2 ^ kk = K * 2 ^ kk * b.m:=by rw [Nat.mul_right_comm]
 rw [e,Int.natCast_mul (K * 2 ^ kk)]
 generalize ((K * 2 ^ kk : Nat) : Int) = x
 generalize (b.m : Int) = y
 cases a.n <;> cases b.n <;> simp [Int.neg_mul,Int.mul_neg]
theorem ZAv (F : Fm) {a b : Nat} {L : Int} (la : LoE (F.vl a) L) (lb : LoE (F.vl b) L) (s : Bool) : LoE (tm F a b s).1 (L + L)∧iv (tm F a b s).1 (L + L) = if s then -(iv (F.vl a) L * iv (F.vl b) L) else iv (F.vl a) L * iv (F.vl b) L:=by
 obtain ⟨m1,m2⟩:=ZbU la lb
 unfold tm
 cases s
 ·exact ⟨m2,m1⟩
 ·exact ⟨Zmz m2,by simp only [if_true]; rw [Zpl,m1]⟩
theorem Zuy (F : Fm) {md : Int} (hm : 1≤md∧md≤5) {X : Dy} {s : Bool} (nX : Nz X) (h : (ptQ F md X s oneD).2 = 0) : F.fin (ptQ F md X s oneD).1∧F.vl (ptQ F md X s oneD).1 = X:=by
 unfold ptQ at h ⊢
 by_cases h0 : X.m = 0
 ·simp only [if_pos h0]
  obtain ⟨_,_,q3,q4⟩:=ZeA F s
  exact ⟨Zap.2 (Or.inl q3),by rw [q4,nX.1 h0]⟩
 ·rw [if_neg h0] at h
  simp only [if_neg h0]
  obtain ⟨f1,_,f3⟩:=Zyo F nX h0 (show oneD.m≠0 by decide) h
  exact ⟨f1,by rw [ZAa (ZfJ F _)] at f3; exact f3.symm⟩
theorem Zux (F : Fm) {md : Int} (hm : 1≤md∧md≤5) {w : Nat} (hw : w < 2 * F.sg) (hf : F.fin w) {X b : Dy} (nX : Nz X) (nb : Nz b) (hb : b.m≠0) {K L : Int} (lX : LoE X (K + L)) (ld : LoE (F.vl w) K) (lb : LoE b L) (h : iv X (K + L) = iv (F.vl w) K * iv b L) (s : Bool) : (ptQ F md X s b).2 = 0∧Near F (ptQ F md X s b).1 w:=by
 unfold ptQ
 by_cases h0 : (F.vl w).m = 0
 ·have hX : X.m = 0:=Zxz nX lX (by rw [h,ZaO h0,Int.zero_mul])
  simp only [if_pos hX]
  exact ⟨trivial,Or.inr ⟨(ZeA F s).2.2.1,(Zjb hw hf).2 h0⟩⟩
 ·have hX : X.m≠0:=fun q => by
   rw [ZaO q] at h
   rcases Int.mul_eq_zero.1 h.symm with k | k
   ·exact h0 (Zxz (ZfJ F w) ld k)
   ·exact hb (Zxz nb lb k)
  simp only [if_neg hX]
  rw [Zym F md nX (ZfJ F w) nb h0 hb lX ld lb h,ZAy F md hw hf h0]
  exact ⟨rfl,Or.inl rfl⟩
theorem back (F : Fm) {md : Int} (hm : 1≤md∧md≤5) {a b c d : Nat} (ha : a < 2 * F.sg) (hb : b < 2 * F.sg) (hc : c < 2 * F.sg) (hd : d < 2 * F.sg) (fa : F.fin a) (fb : F.fin b) (hz : zcl (F.cls c) (F.cls d) = 2) (e1 : (mulR F md a b c d).1.2 = 0) (e2 : (mulR F md a b c d).2.2 = 0) :
  (F.fin (mulR F md a b c d).1.1∧F.fin (mulR F md a b c d).2.1) ∧
  ((divR F md (mulR F md a b c d).1.1 (mulR F md a b c d).2.1 c d).1.2 = 0∧Near F (divR F md (mulR F md a b c d).1.1 (mulR F md a b c d).2.1 c d).1.1 a) ∧
  ((divR F md (mulR F md a b c d).1.1 (mulR F md a b c d).2.1 c d).2.2 = 0∧Near F (divR F md (mulR F md a b c d).1.1 (mulR F md a b c d).2.1 c d).2.1 b):=by
 obtain ⟨fc,fd⟩:=(Zmy F (a:=c) (b:=d)).2 (by omega)
 have hq:=ZDU F hc hd hz
 obtain ⟨p1,v1⟩:=Zuy F hm (ZgM (ZgL F a c false).2 (ZgL F b d true).2) e1
 obtain ⟨p2,v2⟩:=Zuy F hm (ZgM (ZgL F a d false).2 (ZgL F b c false).2) e2
 have la:=Zbe fa
 have lb:=Zbe fb
 have lc:=Zbe fc
 have ld:=Zbe fd
 generalize F.low = L at *
 obtain ⟨x1,y1⟩:=ZAv F la lc false
 obtain ⟨x2,y2⟩:=ZAv F lb ld true
 obtain ⟨x3,y3⟩:=ZAv F la ld false
 obtain ⟨x4,y4⟩:=ZAv F lb lc false
 obtain ⟨i1,l1⟩:=Zdn x1 x2
 obtain ⟨i2,l2⟩:=Zdn x3 x4
 rw [y1,y2] at i1
 rw [y3,y4] at i2
 simp only [Bool.false_eq_true,if_false,if_true] at i1 i2
 have sq:=ZFr F lc ld
 have lsq : LoE (sqD F c d) (L + L):=(Zdn (ZbU lc lc).2 (ZbU ld ld).2).2
 rw [show 2 * L = L + L by omega] at sq
 have P : ∀ {p w : Nat} {X : Dy} {s : Bool},F.vl p = X→LoE X (L + L)→LoE (F.vl w) L→LoE (tm F p w s).1 (L + (L + L))∧iv (tm F p w s).1 (L + (L + L)) = if s then -(iv X (L + L) * iv (F.vl w) L) else iv X (L + L) * iv (F.vl w) L:=fun {p w X s} hp lX lw => by
  obtain ⟨m1,m2⟩:=ZbU lX lw
  rw [show L + L + L = L + (L + L) by omega] at m1 m2
  unfold tm
  rw [hp]
  cases s
  ·exact ⟨m2,m1⟩
  ·exact ⟨Zmz m2,by simp only [if_true]; rw [Zpl,m1]⟩
 refine ⟨⟨p1,p2⟩,?_,?_⟩
 ·obtain ⟨q1,r1⟩:=P (s:=false) v1 l1 lc
  obtain ⟨q2,r2⟩:=P (s:=false) v2 l2 ld
  obtain ⟨i3,l3⟩:=Zdn q1 q2
  refine Zux F hm ha fa (ZgM (ZgL F _ _ _).2 (ZgL F _ _ _).2) (ZCC F c d) hq l3 la lsq ?_ _
  rw [i3,r1,r2,i1,i2,sq]
  simp only [Bool.false_eq_true,if_false]
  generalize iv (F.vl a) L = x
  generalize iv (F.vl b) L = y
  generalize iv (F.vl c) L = z
  generalize iv (F.vl d) L = w
  grind
 ·obtain ⟨q1,r1⟩:=P (s:=false) v2 l2 lc
  obtain ⟨q2,r2⟩:=P (s:=true) v1 l1 ld
  obtain ⟨i3,l3⟩:=Zdn q1 q2
  refine Zux F hm hb fb (ZgM (ZgL F _ _ _).2 (ZgL F _ _ _).2) (ZCC F c d) hq l3 lb lsq ?_ _
  rw [i3,r1,r2,i1,i2,sq]
  simp only [Bool.false_eq_true,if_false,if_true]
  generalize iv (F.vl a) L = x
  generalize iv (F.vl b) L = y
  generalize iv (F.vl c) L = z
  generalize iv (F.vl d) L = w
  grind
def intD (n : Int) : Dy:=mkD (decide (n < 0)) n.natAbs 0
theorem ZAz {n : Int} (h : -9223372036854775808≤n) (h0 : n < 0) : (0 - n % 18446744073709551616) % 18446744073709551616 = (n.natAbs : Int):=by omega
theorem ZAA {n : Int} (h : n≤9223372036854775807) (h0 : ¬ n < 0) : n % 18446744073709551616 = (n.natAbs : Int):=by omega
theorem Zox (J : Al G T g) {n : Int} (h1 : -9223372036854775808≤n) (h2 : n≤9223372036854775807) : ∃ z,run G T 20 [.int .i64 n] = some (DyA z (intD n)):=by
 apply exP
 rw [Zab G T J.C.Zox]
 obtain ⟨z1,r1⟩:=ZkH J (n:=n.natAbs) (by omega)
 have hl : (dl n.natAbs).length < 17179869184:=by
  have h1:=Zaa n.natAbs
  have h2 : blen n.natAbs≤64:=Zae.2 (by rw [show (2 : Nat) ^ 64 = 18446744073709551616 from rfl]; omega)
  omega
 obtain ⟨z2,r2⟩:=Zbg J (n:=decide (n < 0)) (z:=z1) (a:=n.natAbs) (e:=0) hl (by omega)
 unfold intD
 generalize mkD (decide (n < 0)) n.natAbs 0 = d at *
 by_cases h : n < 0
 ·have w1:=ZAz h1 h
  rw [decide_eq_true h] at r2
  generalize dl n.natAbs = l at *
  generalize (n.natAbs : Int) = m at *
  simp only [DyA,A3] at *
  repeat' (first|simp (maxSteps:=9^7) only [seval,exC,Zgx,w1,h,r1,r2]|simp (maxSteps:=9^7) (disch:=first|with_reducible assumption|omega) only [dxB]|(simp only [kdB];split)|(simp only [kvB];split))
  all_goals exact ⟨_,rfl,z2,rfl⟩
 ·have w1:=ZAA h2 h
  rw [decide_eq_false h] at r2
  generalize dl n.natAbs = l at *
  generalize (n.natAbs : Int) = m at *
  simp only [DyA,A3] at *
  repeat' (first|simp (maxSteps:=9^7) only [seval,exC,Zgx,w1,h,r1,r2]|simp (maxSteps:=9^7) (disch:=first|with_reducible assumption|omega) only [dxB]|(simp only [kdB];split)|(simp only [kvB];split))
  all_goals exact ⟨_,rfl,z2,rfl⟩
end Go.Cv
namespace Go.Cv
variable {G : Nat→Option (List AV)} {T : Tbl} {g : Nat}
section
variable (b : Nat) (k : IntKind)
end
end Go.Cv
namespace Go.Cv
def Zw (F : Fm) (p : Nat × Nat) : Prop:=p.1 < 2 * F.sg∧p.2 < 2 * F.sg
def zcells : List (Nat × Nat)→List AV
 | [] => []
 | p :: l => .int .u64 (p.1 : Int) :: .int .u64 (p.2 : Int) :: zcells l
end Go.Cv
namespace Go.Cv
theorem Zzz {d : Dy} {K : Int} (h : LoE d K) (h0 : d.m≠0) : K≤d.e:=h.resolve_left h0
end Go.Cv
namespace Go.Cv
end Go.Cv
namespace Go.Cv
variable {G : Nat→Option (List AV)} {T : Tbl} {g : Nat}
theorem Zta (F : Fm) (w : Nat) : Bd (F.vl w) 2048:=by
 by_cases h1 : (F.vl w).m = 0
 ·rw [(ZfJ F w).1 h1]; exact ⟨by simp only [Zak]; omega,by simp,by simp⟩
 ·have hF:=ZaH F
  have fa : F.fin w:=by
   by_cases h : F.fin w
   ·exact h
   ·exfalso; apply h1; unfold Fm.vl; rw [if_neg h]
  have e1:=ZkB F fa (by rw [← Zbu fa]; exact h1)
  rw [← Zbu fa] at e1
  obtain ⟨_,a1,a2,a3⟩:=e1
  exact ⟨by omega,by omega,by omega⟩
end Go.Cv
namespace Go.Cv
variable {G : Nat→Option (List AV)} {T : Tbl} {g : Nat}
section
variable {α : Type} (bs L : List α) (v : α)
theorem ga0 : (bs ++ L)[bs.length]? = L[0]?:=by rw [List.getElem?_append_right (Nat.le_refl _),Nat.sub_self]
theorem ga1 : (bs ++ L)[bs.length + 1]? = L[1]?:=by rw [List.getElem?_append_right (Nat.le_add_right ..),Nat.add_sub_cancel_left]
theorem ga2 : (bs ++ L)[bs.length + 2]? = L[2]?:=by rw [List.getElem?_append_right (Nat.le_add_right ..),Nat.add_sub_cancel_left]
theorem ga3 : (bs ++ L)[bs.length + 3]? = L[3]?:=by rw [List.getElem?_append_right (Nat.le_add_right ..),Nat.add_sub_cancel_left]
theorem ga4 : (bs ++ L)[bs.length + 4]? = L[4]?:=by rw [List.getElem?_append_right (Nat.le_add_right ..),Nat.add_sub_cancel_left]
theorem gs0 : (bs ++ L).set bs.length v = bs ++ L.set 0 v:=by rw [List.set_append_right _ _ (Nat.le_refl _),Nat.sub_self]
theorem gs1 : (bs ++ L).set (bs.length + 1) v = bs ++ L.set 1 v:=by rw [List.set_append_right _ _ (Nat.le_add_right ..),Nat.add_sub_cancel_left]
theorem gs2 : (bs ++ L).set (bs.length + 2) v = bs ++ L.set 2 v:=by rw [List.set_append_right _ _ (Nat.le_add_right ..),Nat.add_sub_cancel_left]
theorem gs3 : (bs ++ L).set (bs.length + 3) v = bs ++ L.set 3 v:=by rw [List.set_append_right _ _ (Nat.le_add_right ..),Nat.add_sub_cancel_left]
theorem gs4 : (bs ++ L).set (bs.length + 4) v = bs ++ L.set 4 v:=by rw [List.set_append_right _ _ (Nat.le_add_right ..),Nat.add_sub_cancel_left]
theorem gap (K : List α) : bs ++ L ++ K = bs ++ (L ++ K):=List.append_assoc ..
theorem gal : (bs ++ L).length = bs.length + L.length:=List.length_append
end
theorem gaB {α : Type} : type_of% (And.intro (And.intro (And.intro (@ga0 α) (And.intro (@ga1 α) (@ga2 α))) (And.intro (@ga3 α) (@ga4 α))) (And.intro (And.intro (@gs0 α) (And.intro (@gs1 α) (@gs2 α))) (And.intro (And.intro (@gs3 α) (@gs4 α)) (And.intro (@gap α) (@gal α))))):=And.intro (And.intro (And.intro (@ga0 α) (And.intro (@ga1 α) (@ga2 α))) (And.intro (@ga3 α) (@ga4 α))) (And.intro (And.intro (@gs0 α) (And.intro (@gs1 α) (@gs2 α))) (And.intro (And.intro (@gs3 α) (@gs4 α)) (And.intro (@gap α) (@gal α))))
theorem ZkT : ∀ l : List (Nat × Nat),(zcells l).length = l.length * 2
 | [] => rfl
 | p :: l => by rw [zcells,List.length_cons,List.length_cons,List.length_cons,ZkT l]; omega
def zc (l : List (Nat × Nat)) (i : Nat) : Nat × Nat:=l.getD i (0,0)
theorem ZGO {l : List (Nat × Nat)} {i : Nat} (h : i < l.length) : zc l i = l[i]:=by unfold zc; rw [List.getD_eq_getElem?_getD,List.getElem?_eq_getElem h]; rfl
theorem ZCv {l : List (Nat × Nat)} {i : Nat} (h : i < l.length) : zc l i ∈ l:=by rw [ZGO h]; exact List.getElem_mem h
theorem Zsm {l : List (Nat × Nat)} {i : Nat} (h : i < l.length) : l.drop i = zc l i :: l.drop (i + 1):=by rw [ZGO h]; exact List.drop_eq_getElem_cons h
theorem ZoT : ∀ (l : List (Nat × Nat)) (i : Nat),(zcells l).drop (i * 2) = zcells (l.drop i)
 | l,0 => rfl
 | [],i + 1 => by simp [zcells]
 | p :: l,i + 1 => by
  rw [zcells,List.drop_succ_cons,← ZoT l i,show (i + 1) * 2 = i * 2 + 1 + 1 by omega,List.drop_succ_cons,List.drop_succ_cons]
theorem ZvX {l : List (Nat × Nat)} {i : Nat} (h : i < l.length) : ((zcells l).drop (i * 2)).take 2 = [.int .u64 ((zc l i).1 : Int),.int .u64 ((zc l i).2 : Int)]:=by
 rw [ZoT,Zsm h]; rfl
def W64 (l : List (Nat × Nat)) : Prop:=∀ a ∈ l,a.1 < 18446744073709551616∧a.2 < 18446744073709551616
def Zws (F : Fm) (l : List (Nat × Nat)) : Prop:=∀ a ∈ l,Zw F a
theorem Znd {F : Fm} {a : Nat × Nat} {l : List (Nat × Nat)} : Zws F (a :: l)↔Zw F a∧Zws F l:=List.forall_mem_cons
theorem Zwh {F : Fm} : Zws F []:=fun _ h => by cases h
end Go.Cv
namespace Go.Cv
variable {G : Nat→Option (List AV)} {T : Tbl} {g : Nat}
end Go.Cv
namespace Go.Cv
variable {G : Nat→Option (List AV)} {T : Tbl} {g : Nat}
section
variable (x y z : AV) (k : IntKind)
end
end Go.Cv
namespace Go.Cv
variable {G : Nat→Option (List AV)} {T : Tbl} {g : Nat}
def Tb (d : Dy) (W E : Nat) : Prop:=d.m≠0→(-(E : Int)≤d.e∧d.e + blen d.m≤W)
theorem Tb.mono {d : Dy} {W E W' E' : Nat} (h : Tb d W E) (h1 : W≤W') (h2 : E≤E') : Tb d W' E':=fun h0 => by have:=h h0; omega
theorem ZtA {d : Dy} {K : Nat} (h : Bd d K) (hK : K≤1073741824) : (dl d.m).length < 1073741824:=by
 have:=Zaa d.m
 have:=h.bl
 omega
theorem ZkK (J : Al G T g) {z y : Bool} {a b : Dy} (ha : Bd a 1000000) (hb : Bd b 1000000) : ∃ z',run G T 154 [DyA z a,DyA y b] = some (DyA z' (mulD a b)) :=
 ZjW J (z:=z) (y:=y) (ZtA ha (by decide)) (ZtA hb (by decide)) (by have:=ha.lo; have:=ha.hi; omega) (by have:=hb.lo; have:=hb.hi; omega)
theorem Zvn (a b a' b' : Int) : eqsA false [false,false] (.agg [.int .u64 a,.int .u64 b]) (.agg [.int .u64 a',.int .u64 b']) = some (.bool (decide (a = a'∧b = b'))):=by
 simp [eqsA,kindsA,eqCells,Bool.decide_and]
 all_goals rfl
theorem ZsO (F : CallF) (d : Option Nat) (os : List IOper) (e : Env) (h : Heap) (zero : List AV) (ps : List (Nat × Nat × IOpd)) : evOps G F (⟨d,.bslice 1 2 zero ps,none⟩ :: os) e h =
  kBs G F (fillA zero (ps.map fun (o,n,x) => (o,n,opd e x))) (.own h.b.length 0 1 2) d os e h:=by
 have:=Zin G F d os e h 1 2 zero ps
 rwa [show repA 1 zero = zero by simp [repA]] at this
theorem ZsY {l : List (Nat × Nat)} {i : Nat} {w : List AV} (h : i < l.length) : ((zcells l ++ w).drop (i * 2)).take 2 = [.int .u64 ((zc l i).1 : Int),.int .u64 ((zc l i).2 : Int)]:=by
 rw [List.drop_append_of_le_length (by rw [ZkT]; omega),List.take_append_of_le_length (by rw [List.length_drop,ZkT]; omega),ZvX h]
end Go.Cv
