/-
 A part of the proof of the statements of this seat (texts that the law's own text leans on): no condition.
-/
import Derived.Test.YtddmoldiopnifaaGreatDoorM13
import Derived.Test.YtddmoldiopnifaaGreatDoorM7
import Derived.Test.YtddmoldiopnifaaGreatDoorM11
set_option linter.unusedVariables false
set_option linter.unusedSimpArgs false
namespace Go.Cv
variable {G : Nat→Option (List AV)} {T : Tbl} {g : Nat}
theorem Zcx (a b : Dy) : Nz (mulD a b):=Zlt _ _ _
theorem Zcw {a b : Dy} {K : Nat} (ha : Bd a K) (hb : Bd b K) : Bd (mulD a b) (4 * K):=by
 obtain ⟨a1,a2,a3⟩:=ha
 obtain ⟨b1,b2,b3⟩:=hb
 have hb : blen (a.m * b.m)≤2 * K:=by
  refine Zae.2 ?_
  rw [show 2 * K = K + K by omega,Nat.pow_add]
  exact Nat.mul_lt_mul_of_lt_of_lt (Zae.1 a1) (Zae.1 b1)
 exact ZmZ (by omega) (by omega) (by omega)
theorem Zex {d : Dy} (h : Nz d) (b : Bd d 131072) : mayD d.n (dl d.m) d.e = true:=by
 obtain ⟨b1,b2,b3⟩:=b
 have hm : mayL (dl d.m) = true:=Zas b1
 simp only [mayD,hm,Bool.true_and]
 by_cases h0 : d.m = 0
 ·rw [h.1 h0,Zan]; rfl
 ·have h1 : ¬ (dl d.m).length = 0:=fun hc => h0 (Zay.1 hc)
  rw [if_neg h1,dg0]
  have h2:=h.2 h0
  simp only [Bool.and_eq_true,decide_eq_true_eq]
  exact ⟨h2,by omega,by omega⟩
theorem Zmm {d : Dy} : sgnD d = 0↔d.m = 0:=by
 unfold sgnD
 by_cases h : d.m = 0
 ·rw [if_pos h]; exact ⟨fun _ => h,fun _ => rfl⟩
 ·rw [if_neg h]
  constructor
  ·intro hc; split at hc <;> omega
  ·intro hc; exact absurd hc h
theorem ZeU (J : Al G T g) (F : Fm) : run G T 157 [.int .u8 F.u] = some (.int .u64 (F.nan : Int)):=by
 rw [Zab G T J.F.ZeU]
 have h1:=ZeT J F
 have h2:=ZcS J F
 cases F
 ·have h4:=ZdL J .s (n:=false) (x:=255) (w:=4194304) (by decide) (Or.inl (by decide))
  simp only [fldA,Fm.u,Fm.fr,Fm.most,Fm.nan,Fm.inf,Fm.sgn,Fm.sg,Int.cast_ofNat_Int,Nat.reducePow,Nat.reduceMul,Nat.reduceSub,Nat.reduceAdd,Bool.false_eq_true,if_false] at *
  repeat' (first|simp (maxSteps:=9^7) only [seval,exC,Zfv,h1,h2,h4]|simp (maxSteps:=9^7) (disch:=first|with_reducible assumption|omega) only [dxB]|(simp only [kdB];split)|(simp only [kvB];split))
 ·have h4:=ZdL J .d (n:=false) (x:=2047) (w:=2251799813685248) (by decide) (Or.inl (by decide))
  simp only [fldA,Fm.u,Fm.fr,Fm.most,Fm.nan,Fm.inf,Fm.sgn,Fm.sg,Int.cast_ofNat_Int,Nat.reducePow,Nat.reduceMul,Nat.reduceSub,Nat.reduceAdd,Bool.false_eq_true,if_false] at *
  repeat' (first|simp (maxSteps:=9^7) only [seval,exC,Zfv,h1,h2,h4]|simp (maxSteps:=9^7) (disch:=first|with_reducible assumption|omega) only [dxB]|(simp only [kdB];split)|(simp only [kvB];split))
theorem Zkc (J : Al G T g) (F : Fm) {w : Nat} : run G T 233 [.int .u8 F.u,.int .u64 (w : Int)] = some (.bool (F.ng w)):=by
 rw [Zab G T J.H.Zkc]
 have h1:=Zgm J F
 have h2 : decide ((F.sg : Int)≤(w : Int)) = F.ng w:=by unfold Fm.ng; congr 1; apply propext; omega
 repeat' (first|simp (maxSteps:=9^7) only [seval,exC,ZiU,h1,h2]|simp (maxSteps:=9^7) (disch:=first|with_reducible assumption|omega) only [dxB]|(simp only [kdB];split)|(simp only [kvB];split))
theorem Zij (J : Al G T g) (F : Fm) {w : Nat} (hw : w < 2 * F.sg) : run G T 230 [.int .u8 F.u,.int .u64 (w : Int)] = some (.bool (decide (F.cls w = 5))):=by
 rw [Zab G T J.H.Zij]
 have h1:=ZaB J F (Zbm hw)
 repeat' (first|simp (maxSteps:=9^7) only [seval,exC,ZiT,h1]|simp (maxSteps:=9^7) (disch:=first|with_reducible assumption|omega) only [dxB]|(simp only [kdB];split)|(simp only [kvB];split))
theorem Zkb (J : Al G T g) (F : Fm) {w : Nat} (hw : w < 2 * F.sg) : run G T 231 [.int .u8 F.u,.int .u64 (w : Int)] = some (.bool (decide (F.cls w = 4))):=by
 rw [Zab G T J.H.Zkb]
 have h1:=ZaB J F (Zbm hw)
 repeat' (first|simp (maxSteps:=9^7) only [seval,exC,ZiS,h1]|simp (maxSteps:=9^7) (disch:=first|with_reducible assumption|omega) only [dxB]|(simp only [kdB];split)|(simp only [kvB];split))
theorem ZkJ (J : Al G T g) (F : Fm) {w : Nat} (hw : w < 2 * F.sg) : run G T 232 [.int .u8 F.u,.int .u64 (w : Int)] = some (.bool (decide (F.cls w = 1))):=by
 rw [Zab G T J.H.ZkJ]
 have h1:=ZaB J F (Zbm hw)
 repeat' (first|simp (maxSteps:=9^7) only [seval,exC,Zhl,h1]|simp (maxSteps:=9^7) (disch:=first|with_reducible assumption|omega) only [dxB]|(simp only [kdB];split)|(simp only [kvB];split))
theorem Zjo (J : Al G T g) (F : Fm) {md : Int} : run G T 234 [.int .u8 F.u,.int .u8 md] = some (.int .u64 ((F.sgn (decide (md = 5)) : Nat) : Int)):=by
 rw [Zab G T J.H.Zjo]
 have h1:=Zbd J F (n:=decide (md = 5)) (w:=0)
 rw [Nat.zero_mod,Nat.zero_add,cast0] at h1
 repeat' (first|simp (maxSteps:=9^7) only [seval,exC,Zef,h1]|simp (maxSteps:=9^7) (disch:=first|with_reducible assumption|omega) only [dxB]|(simp only [kdB];split)|(simp only [kvB];split))
theorem ZDH (J : Al G T g) (F : Fm) {md : Int} (hm : 1≤md∧md≤5) {z : Bool} {d : Dy} (hz : Nz d) (hb : Bd d 131072) :
  run G T 16 [DyA z d] = some (.int .i64 (sgnD d)) ∧
  ((sgnD d = 0∧run G T 234 [.int .u8 F.u,.int .u8 md] = some (.int .u64 ((sumW F md d).1 : Int))∧(sumW F md d).2 = 0) ∨
   (¬ sgnD d = 0∧run G T 12 [.int .u8 F.u,.int .u8 md,DyA z d] = some (.tup [.int .u64 ((sumW F md d).1 : Int),.int .u8 ((sumW F md d).2 : Int)]))):=by
 refine ⟨ZbA J,?_⟩
 by_cases h0 : d.m = 0
 ·left
  have h1:=Zjo J F (md:=md)
  unfold sumW
  rw [if_pos h0]
  exact ⟨Zmm.2 h0,h1,rfl⟩
 ·right
  have h1:=ZgI J F hm (z:=z) hz (hb.mono (by decide))
  unfold sumW
  rw [if_neg h0]
  exact ⟨fun h => h0 (Zmm.1 h),h1⟩
theorem Zvr (F : Fm) (md : Int) {a b : Nat} (ha : a < 2 * F.sg) (hb : b < 2 * F.sg) :
  (F.cls a = 5∧addW F md a b = (F.nan,0))∨(F.cls a≠5∧F.cls b = 5∧addW F md a b = (F.nan,0)) ∨
  (F.cls a = 4∧F.cls b = 4∧a = b∧addW F md a b = (a,0))∨(F.cls a = 4∧F.cls b = 4∧a≠b∧addW F md a b = (F.nan,1)) ∨
  (F.cls a = 4∧F.cls b≠4∧F.cls b≠5∧addW F md a b = (a,0))∨(F.cls a≠4∧F.cls a≠5∧F.cls b = 4∧addW F md a b = (b,0)) ∨
  (F.fin a∧F.fin b∧F.cls a = 1∧a = b∧addW F md a b = (a,0))∨(F.fin a∧F.fin b∧(F.cls a≠1∨a≠b)∧addW F md a b = sumW F md (addD (F.vl a) (F.vl b))):=by
 unfold addW addP
 have ra:=Zdm F a
 have rb:=Zdm F b
 by_cases a5 : F.cls a = 5
 ·left; exact ⟨a5,if_pos (Or.inl a5)⟩
 ·right
  by_cases b5 : F.cls b = 5
  ·left; exact ⟨a5,b5,if_pos (Or.inr b5)⟩
  ·right
   rw [if_neg (by omega)]
   by_cases a4 : F.cls a = 4
   ·have ea:=ZlC ha a4
    by_cases b4 : F.cls b = 4
    ·have eb:=ZlC hb b4
     by_cases hn : F.ng a = F.ng b
     ·left
      refine ⟨a4,b4,by rw [ea,eb,hn],?_⟩
      rw [if_neg (fun h => h.2.2 hn),if_pos a4,← ea]
     ·right; left
      refine ⟨a4,b4,?_,if_pos ⟨a4,b4,hn⟩⟩
      intro hc; exact hn (by rw [hc])
    ·right; right; left
     refine ⟨a4,b4,b5,?_⟩
     rw [if_neg (fun h => b4 h.2.1),if_pos a4,← ea]
   ·by_cases b4 : F.cls b = 4
    ·right; right; right; left
     refine ⟨a4,a5,b4,?_⟩
     rw [if_neg (fun h => a4 h.1),if_neg a4,if_pos b4,← ZlC hb b4]
    ·right; right; right; right
     have fa : F.fin a:=Zap.2 (by omega)
     have fb : F.fin b:=Zap.2 (by omega)
     rw [if_neg (fun h => a4 h.1),if_neg a4,if_neg b4]
     by_cases h1 : F.cls a = 1∧a = b
     ·left
      refine ⟨fa,fb,h1.1,h1.2,?_⟩
      rw [if_pos ⟨h1.1,by rw [← h1.2]; exact h1.1,by rw [h1.2]⟩,← (ZeQ ha h1.1).1]
     ·right
      refine ⟨fa,fb,?_,?_⟩
      ·by_cases q : F.cls a = 1
       ·exact Or.inr (fun hc => h1 ⟨q,hc⟩)
       ·exact Or.inl q
      ·rw [if_neg]
       rintro ⟨q1,q2,q3⟩
       exact h1 ⟨q1,by rw [(ZeQ ha q1).1,(ZeQ hb q2).1,q3]⟩
theorem Zbu {F : Fm} {w : Nat} (h : F.fin w) : F.vl w = F.val w:=if_pos h
theorem Zka (J : Al G T g) (F : Fm) {md : Int} (hm : 1≤md∧md≤5) {a b : Nat} (ha : a < 2 * F.sg) (hb : b < 2 * F.sg) :
  run G T 219 [.int .u8 F.u,.int .u8 md,.int .u64 (a : Int),.int .u64 (b : Int)] = some (.tup [.int .u64 ((addW F md a b).1 : Int),.int .u8 ((addW F md a b).2 : Int)]):=by
 rw [Zab G T J.H.Zka]
 have na:=Zij J F ha
 have nb:=Zij J F hb
 have ia:=Zkb J F ha
 have ib:=Zkb J F hb
 have za:=ZkJ J F ha
 have nn:=ZeU J F
 have ra:=Zdm F a
 have rb:=Zdm F b
 rcases Zvr F md ha hb with ⟨h1,W⟩ | ⟨h1,h2,W⟩ | ⟨h1,h2,h3,W⟩ | ⟨h1,h2,h3,W⟩ | ⟨h1,h2,h3,W⟩ | ⟨h1,h2,h3,W⟩ | ⟨h1,h2,h3,h4,W⟩ | ⟨h1,h2,h3,W⟩
 ·rw [W]
  rw [decide_eq_true h1] at na
  repeat' (first|simp (maxSteps:=9^7) only [seval,exC,ZaQ,na,nn]|simp (maxSteps:=9^7) (disch:=first|with_reducible assumption|omega) only [dxB]|(simp only [kdB];split)|(simp only [kvB];split))
  all_goals rfl
 ·rw [W]
  rw [decide_eq_false h1] at na
  rw [decide_eq_true h2] at nb
  repeat' (first|simp (maxSteps:=9^7) only [seval,exC,ZaQ,na,nb,nn]|simp (maxSteps:=9^7) (disch:=first|with_reducible assumption|omega) only [dxB]|(simp only [kdB];split)|(simp only [kvB];split))
  all_goals rfl
 ·rw [W]
  rw [decide_eq_false (by omega)] at na nb
  rw [decide_eq_true h1] at ia
  rw [decide_eq_true h2] at ib
  subst h3
  repeat' (first|simp (maxSteps:=9^7) only [seval,exC,ZaQ,na,nb,ia,ib]|simp (maxSteps:=9^7) (disch:=first|with_reducible assumption|omega) only [dxB]|(simp only [kdB];split)|(simp only [kvB];split))
  all_goals rfl
 ·rw [W]
  rw [decide_eq_false (by omega)] at na nb
  rw [decide_eq_true h1] at ia
  rw [decide_eq_true h2] at ib
  have hab : ¬ (a : Int) = (b : Int):=by omega
  repeat' (first|simp (maxSteps:=9^7) only [seval,exC,ZaQ,na,nb,ia,ib,hab,nn]|simp (maxSteps:=9^7) (disch:=first|with_reducible assumption|omega) only [dxB]|(simp only [kdB];split)|(simp only [kvB];split))
  all_goals rfl
 ·rw [W]
  rw [decide_eq_false (by omega)] at na nb
  rw [decide_eq_true h1] at ia
  rw [decide_eq_false h2] at ib
  repeat' (first|simp (maxSteps:=9^7) only [seval,exC,ZaQ,na,nb,ia,ib]|simp (maxSteps:=9^7) (disch:=first|with_reducible assumption|omega) only [dxB]|(simp only [kdB];split)|(simp only [kvB];split))
  all_goals rfl
 ·rw [W]
  rw [decide_eq_false (by omega)] at na nb
  rw [decide_eq_false h1] at ia
  rw [decide_eq_true h3] at ib
  repeat' (first|simp (maxSteps:=9^7) only [seval,exC,ZaQ,na,nb,ia,ib]|simp (maxSteps:=9^7) (disch:=first|with_reducible assumption|omega) only [dxB]|(simp only [kdB];split)|(simp only [kvB];split))
  all_goals rfl
 ·rw [W]
  have q1:=Zap.1 h1
  have q2:=Zap.1 h2
  rw [decide_eq_false (by omega)] at na nb ia ib
  rw [decide_eq_true h3] at za
  subst h4
  repeat' (first|simp (maxSteps:=9^7) only [seval,exC,ZaQ,na,nb,ia,ib,za]|simp (maxSteps:=9^7) (disch:=first|with_reducible assumption|omega) only [dxB]|(simp only [kdB];split)|(simp only [kvB];split))
  all_goals rfl
 ·rw [W]
  have q1:=Zap.1 h1
  have q2:=Zap.1 h2
  rw [decide_eq_false (by omega)] at na nb ia ib
  obtain ⟨z1,v1⟩:=Zbl J F (Zbm ha) h1
  obtain ⟨z2,v2⟩:=Zbl J F (Zbm hb) h2
  rw [← Zbu h1] at v1
  rw [← Zbu h2] at v2
  have b1:=ZcF F a
  have b2:=ZcF F b
  obtain ⟨z3,s1⟩:=Zcg J (z:=z1) (y:=z2) (b1.mono (by decide)) (b2.mono (by decide))
  obtain ⟨g1,g2⟩:=ZDH J F hm (z:=z3) (ZgM (ZfJ F a) (ZfJ F b)) ((ZeC b1 b2).mono (by decide))
  generalize sumW F md (addD (F.vl a) (F.vl b)) = S at *
  generalize addD (F.vl a) (F.vl b) = s at *
  generalize F.vl a = va at *
  generalize F.vl b = vb at *
  have hza : (F.cls a = 1∧¬ (a : Int) = (b : Int))∨¬ F.cls a = 1:=by omega
  clear b1 b2 W ra rb q1 q2 h3 nn
  simp only [DyA,A3] at *
  rcases hza with ⟨k1,k2⟩ | k1
  ·rw [decide_eq_true k1] at za
   rcases g2 with ⟨g3,g4,g5⟩ | ⟨g3,g4⟩
   ·rw [g5,cast0]
    repeat' (first|simp (maxSteps:=9^7) only [seval,exC,ZaQ,na,nb,ia,ib,za,k2,v1,v2,s1,g1,g3,g4]|simp (maxSteps:=9^7) (disch:=first|with_reducible assumption|omega) only [dxB]|(simp only [kdB];split)|(simp only [kvB];split))
    all_goals try rfl
   ·repeat' (first|simp (maxSteps:=9^7) only [seval,exC,ZaQ,na,nb,ia,ib,za,k2,v1,v2,s1,g1,g3,g4]|simp (maxSteps:=9^7) (disch:=first|with_reducible assumption|omega) only [dxB]|(simp only [kdB];split)|(simp only [kvB];split))
    all_goals try rfl
  ·rw [decide_eq_false k1] at za
   rcases g2 with ⟨g3,g4,g5⟩ | ⟨g3,g4⟩
   ·rw [g5,cast0]
    repeat' (first|simp (maxSteps:=9^7) only [seval,exC,ZaQ,na,nb,ia,ib,za,v1,v2,s1,g1,g3,g4]|simp (maxSteps:=9^7) (disch:=first|with_reducible assumption|omega) only [dxB]|(simp only [kdB];split)|(simp only [kvB];split))
    all_goals try rfl
   ·repeat' (first|simp (maxSteps:=9^7) only [seval,exC,ZaQ,na,nb,ia,ib,za,v1,v2,s1,g1,g3,g4]|simp (maxSteps:=9^7) (disch:=first|with_reducible assumption|omega) only [dxB]|(simp only [kdB];split)|(simp only [kvB];split))
    all_goals try rfl
theorem ZoA (J : Al G T g) (F : Fm) {md : Int} (hm : 1≤md∧md≤5) {a b : Nat} (ha : a < 2 * F.sg) (hb : b < 2 * F.sg) :
  run G T 220 [.int .u8 F.u,.int .u8 md,.int .u64 (a : Int),.int .u64 (b : Int)] = some (.tup [.int .u64 ((subW F md a b).1 : Int),.int .u8 ((subW F md a b).2 : Int)]):=by
 rw [Zab G T J.H.ZoA]
 have nb:=Zij J F hb
 have gb:=Zkc J F (w:=b)
 obtain ⟨f1,f2,f3,f4⟩:=Zpj hb
 have sd:=Zbd J F (n:=!F.ng b) (w:=b)
 rw [show b % F.sg + F.sgn (!F.ng b) = F.flip b from rfl] at sd
 by_cases h1 : F.cls b = 5
 ·rw [decide_eq_true h1] at nb
  have ad:=Zka J F hm ha hb
  have W : subW F md a b = addW F md a b:=by
   unfold subW addW addP; rw [if_pos (Or.inr h1),if_pos (Or.inr h1)]
  rw [W]
  repeat' (first|simp (maxSteps:=9^7) only [seval,exC,ZgB,nb,ad]|simp (maxSteps:=9^7) (disch:=first|with_reducible assumption|omega) only [dxB]|(simp only [kdB];split)|(simp only [kvB];split))
  all_goals try rfl
 ·rw [decide_eq_false h1] at nb
  have ad:=Zka J F hm ha f1
  rw [ZrU F md hb]
  generalize addW F md a (F.flip b) = W at *
  generalize F.flip b = c at *
  cases hn : F.ng b <;> (
   rw [hn] at gb sd
   simp only [Bool.not_true,Bool.not_false] at sd
   repeat' (first|simp (maxSteps:=9^7) only [seval,exC,ZgB,nb,gb,sd,ad]|simp (maxSteps:=9^7) (disch:=first|with_reducible assumption|omega) only [dxB]|(simp only [kdB];split)|(simp only [kvB];split))
   all_goals try rfl)
structure KindR (G : Nat→Option (List AV)) (T : Tbl) (F : Fm) (w : Nat) (n i z : Bool) : Prop where
 nan : run G T 230 [.int .u8 F.u,.int .u64 (w : Int)] = some (.bool n)
 inf : run G T 231 [.int .u8 F.u,.int .u64 (w : Int)] = some (.bool i)
 zer : run G T 232 [.int .u8 F.u,.int .u64 (w : Int)] = some (.bool z)
theorem Zps (J : Al G T g) (F : Fm) {w : Nat} (hw : w < 2 * F.sg) :
  (F.cls w = 5∧KindR G T F w true false false)∨(F.cls w = 4∧KindR G T F w false true false)∨(F.cls w = 1∧KindR G T F w false false true)∨((F.fin w∧F.cls w≠1∧F.cls w≠4∧F.cls w≠5)∧KindR G T F w false false false):=by
 have h1:=Zij J F hw
 have h2:=Zkb J F hw
 have h3:=ZkJ J F hw
 have r:=Zdm F w
 by_cases a : F.cls w = 5
 ·left; rw [decide_eq_true a] at h1; rw [decide_eq_false (by omega)] at h2 h3; exact ⟨a,h1,h2,h3⟩
 ·right
  by_cases b : F.cls w = 4
  ·left; rw [decide_eq_true b] at h2; rw [decide_eq_false (by omega)] at h1 h3; exact ⟨b,h1,h2,h3⟩
  ·right
   by_cases c : F.cls w = 1
   ·left; rw [decide_eq_true c] at h3; rw [decide_eq_false (by omega)] at h1 h2; exact ⟨c,h1,h2,h3⟩
   ·right; rw [decide_eq_false (by omega)] at h1 h2 h3; exact ⟨⟨Zap.2 (by omega),c,b,a⟩,h1,h2,h3⟩
set_option maxHeartbeats 16000000 in
theorem Zii (J : Al G T g) (F : Fm) {md : Int} (hm : 1≤md∧md≤5) {a b : Nat} (ha : a < 2 * F.sg) (hb : b < 2 * F.sg) :
  run G T 222 [.int .u8 F.u,.int .u8 md,.int .u64 (a : Int),.int .u64 (b : Int)] = some (.tup [.int .u64 ((mulW2 F md a b).1 : Int),.int .u8 ((mulW2 F md a b).2 : Int)]):=by
 rw [Zab G T J.H.Zii]
 have nn:=ZeU J F
 have ga:=Zkc J F (w:=a)
 have gb:=Zkc J F (w:=b)
 have inf:=ZjX J F (n:=F.ng a != F.ng b)
 have sg:=Zbd J F (n:=F.ng a != F.ng b) (w:=0)
 rw [Nat.zero_mod,Nat.zero_add,cast0] at sg
 unfold mulW2 mulP
 rcases Zps J F ha with ⟨ka,na,ia,za⟩ | ⟨ka,na,ia,za⟩ | ⟨ka,na,ia,za⟩ | ⟨⟨fa,ka,ka2,ka3⟩,na,ia,za⟩
 ·rw [if_pos (Or.inl ka)]
  repeat' (first|simp (maxSteps:=9^7) only [seval,exC,Zca,na,nn]|simp (maxSteps:=9^7) (disch:=first|with_reducible assumption|omega) only [dxB]|(simp only [kdB];split)|(simp only [kvB];split))
  all_goals rfl
 all_goals rcases Zps J F hb with ⟨kb,nb,ib,zb⟩ | ⟨kb,nb,ib,zb⟩ | ⟨kb,nb,ib,zb⟩ | ⟨⟨fb,kb,kb2,kb3⟩,nb,ib,zb⟩
 all_goals try (
  rw [if_pos (Or.inr kb)]
  repeat' (first|simp (maxSteps:=9^7) only [seval,exC,Zca,na,nb,nn]|simp (maxSteps:=9^7) (disch:=first|with_reducible assumption|omega) only [dxB]|(simp only [kdB];split)|(simp only [kvB];split))
  all_goals rfl
  done)
 all_goals rw [if_neg (by omega)]
 all_goals try (
  rw [if_pos (by omega)]
  repeat' (first|simp (maxSteps:=9^7) only [seval,exC,Zca,na,nb,ia,za,ib,zb,nn]|simp (maxSteps:=9^7) (disch:=first|with_reducible assumption|omega) only [dxB]|(simp only [kdB];split)|(simp only [kvB];split))
  all_goals rfl
  done)
 all_goals try rw [if_neg (show ¬ ((F.cls a = 4∨F.cls b = 4)∧(F.cls a = 1∨F.cls b = 1)) by omega)]
 all_goals try (
  rw [if_pos (show F.cls a = 4∨F.cls b = 4 by omega)]
  generalize F.ng a = x at *
  generalize F.ng b = y at *
  cases x <;> cases y <;> (
   simp only [bne_self_eq_false,Bool.false_bne,Bool.true_bne,Bool.not_true,Bool.not_false,Bool.bne_true,Bool.bne_false] at inf ⊢
   repeat' (first|simp (maxSteps:=9^7) only [seval,exC,Zca,na,nb,ia,za,ib,zb,ga,gb,inf]|simp (maxSteps:=9^7) (disch:=first|with_reducible assumption|omega) only [dxB]|(simp only [kdB];split)|(simp only [kvB];split))
   all_goals rfl)
  done)
 all_goals try rw [if_neg (show ¬ (F.cls a = 4∨F.cls b = 4) by omega)]
 all_goals try (
  rw [if_pos (show F.cls a = 1∨F.cls b = 1 by omega)]
  generalize F.ng a = x at *
  generalize F.ng b = y at *
  cases x <;> cases y <;> (
   simp only [bne_self_eq_false,Bool.false_bne,Bool.true_bne,Bool.not_true,Bool.not_false,Bool.bne_true,Bool.bne_false] at sg ⊢
   repeat' (first|simp (maxSteps:=9^7) only [seval,exC,Zca,na,nb,ia,za,ib,zb,ga,gb,sg]|simp (maxSteps:=9^7) (disch:=first|with_reducible assumption|omega) only [dxB]|(simp only [kdB];split)|(simp only [kvB];split))
   all_goals rfl)
  done)
 rw [if_neg (show ¬ (F.cls a = 1∨F.cls b = 1) by omega)]
 obtain ⟨z1,v1⟩:=Zbl J F (Zbm ha) fa
 obtain ⟨z2,v2⟩:=Zbl J F (Zbm hb) fb
 have m1:=ZsT ha ka fa
 have m2:=ZsT hb kb fb
 rw [← Zbu fa] at v1 m1
 rw [← Zbu fb] at v2 m2
 have b1:=ZcF F a
 have b2:=ZcF F b
 obtain ⟨p1,p2,p3⟩:=b1
 obtain ⟨q1,q2,q3⟩:=b2
 have hl1:=Zaa (F.vl a).m
 have hl2:=Zaa (F.vl b).m
 obtain ⟨z3,s1⟩:=ZjW J (z:=z1) (y:=z2) (a:=F.vl a) (b:=F.vl b) (by omega) (by omega) (by omega) (by omega)
 have r1:=ZgI J F hm (z:=z3) (Zcx (F.vl a) (F.vl b)) ((Zcw (ZcF F a) (ZcF F b)).mono (by decide))
 have hne : (F.vl a).m * (F.vl b).m≠0:=by
  intro hc
  rcases Nat.mul_eq_zero.1 hc with h | h
  ·exact m1 h
  ·exact m2 h
 have hm0 : (mulD (F.vl a) (F.vl b)).m≠0:=ZlN hne _
 unfold sumW
 rw [if_neg hm0]
 rw [show mkD ((F.vl a).n != (F.vl b).n) ((F.vl a).m * (F.vl b).m) ((F.vl a).e + (F.vl b).e) = mulD (F.vl a) (F.vl b) from rfl] at s1
 generalize rndW F md (mulD (F.vl a) (F.vl b)) = S at *
 generalize mulD (F.vl a) (F.vl b) = s at *
 clear p1 p2 p3 q1 q2 q3 hl1 hl2 m1 m2 hne hm0
 generalize F.vl a = va at *
 generalize F.vl b = vb at *
 simp only [DyA,A3] at *
 repeat' (first|simp (maxSteps:=9^7) only [seval,exC,Zca,na,nb,ia,za,ib,zb,ga,gb,v1,v2,s1,r1]|simp (maxSteps:=9^7) (disch:=first|with_reducible assumption|omega) only [dxB]|(simp only [kdB];split)|(simp only [kvB];split))
 all_goals try rfl
theorem rp_0 (h : Mem) (x : AV) (l : List AV) : rdAt G h 1 (.iptr (x :: l) 0) = some [x]:=by simp [rdAt]
theorem rp_1 (h : Mem) (x y : AV) (l : List AV) : rdAt G h 1 (.iptr (x :: y :: l) 1) = some [y]:=by simp [rdAt]
theorem rp_2 (h : Mem) (x y z : AV) (l : List AV) : rdAt G h 1 (.iptr (x :: y :: z :: l) 2) = some [z]:=by simp [rdAt]
theorem wr_1 : IntKind.i64.wrap (0 + 1) = 1:=rfl
theorem wr_2 : IntKind.i64.wrap (1 + 1) = 2:=rfl
theorem wr1 : IntKind.i64.wrap 1 = 1:=rfl
theorem wr2 : IntKind.i64.wrap 2 = 2:=rfl
end Go.Cv
namespace Go.Cv
variable {G : Nat→Option (List AV)} {T : Tbl} {g : Nat}
section
variable (a1 a2 a3 a4 a5 b1 b2 b3 b4 b5 c1 c2 c3 c4 c5 : AV) (k : IntKind)
end
end Go.Cv
namespace Go.Cv
variable {G : Nat→Option (List AV)} {T : Tbl} {g : Nat}
theorem Zne (cs : List AV) (o b o' : Nat) : apart (.iptr cs o) (.ptr b o') = true:=rfl
end Go.Cv
namespace Go.Cv
variable {G : Nat→Option (List AV)} {T : Tbl} {g : Nat}
section
variable {f md a b c e : Int}
end
end Go.Cv
namespace Go.Cv
variable {G : Nat→Option (List AV)} {T : Tbl} {g : Nat}
def zA (a b : Nat) : AV:=.agg [.int .u64 (a : Int),.int .u64 (b : Int)]
def zcl (c c' : Int) : Int:=if c = 4∨c' = 4 then 3 else if c = 5∨c' = 5 then 4 else if c = 1∧c' = 1 then 1 else 2
def sqD (F : Fm) (a b : Nat) : Dy:=addD (mulD (F.vl a) (F.vl a)) (mulD (F.vl b) (F.vl b))
theorem ZkF (J : Al G T g) (F : Fm) {a b : Nat} (ha : a < 2 * F.sg) (hb : b < 2 * F.sg) : run G T 189 [.int .u8 F.u,zA a b] = some (.tup [.int .u8 (zcl (F.cls a) (F.cls b)),.int .i64 0]):=by
 rw [Zab G T J.U.ZkF]
 have h1:=Zir J F ha
 have h2:=Zir J F hb
 unfold zcl
 generalize F.cls a = c at *
 generalize F.cls b = d at *
 simp only [zA] at *
 by_cases q4 : c = 4∨d = 4
 ·rw [if_pos q4]
  by_cases k : c = 4
  ·repeat' (first|simp (maxSteps:=9^7) only [seval,exC,Zbt,h1,h2,k]|simp (maxSteps:=9^7) (disch:=first|with_reducible assumption|omega) only [dxB]|(simp only [kdB];split)|(simp only [kvB];split))
  ·have k2 : d = 4:=by omega
   repeat' (first|simp (maxSteps:=9^7) only [seval,exC,Zbt,h1,h2,k,k2]|simp (maxSteps:=9^7) (disch:=first|with_reducible assumption|omega) only [dxB]|(simp only [kdB];split)|(simp only [kvB];split))
 ·rw [if_neg q4]
  have k1 : ¬ c = 4:=by omega
  have k2 : ¬ d = 4:=by omega
  by_cases q5 : c = 5∨d = 5
  ·rw [if_pos q5]
   by_cases k : c = 5
   ·subst k; repeat' (first|simp (maxSteps:=9^7) only [seval,exC,Zbt,h1,h2,k2]|simp (maxSteps:=9^7) (disch:=first|with_reducible assumption|omega) only [dxB]|(simp only [kdB];split)|(simp only [kvB];split))
   ·have k3 : d = 5:=by omega
    subst k3; repeat' (first|simp (maxSteps:=9^7) only [seval,exC,Zbt,h1,h2,k,k1]|simp (maxSteps:=9^7) (disch:=first|with_reducible assumption|omega) only [dxB]|(simp only [kdB];split)|(simp only [kvB];split))
  ·rw [if_neg q5]
   have k3 : ¬ c = 5:=by omega
   have k4 : ¬ d = 5:=by omega
   by_cases q1 : c = 1∧d = 1
   ·rw [if_pos q1]
    obtain ⟨rfl,rfl⟩:=q1
    repeat' (first|simp (maxSteps:=9^7) only [seval,exC,Zbt,h1,h2]|simp (maxSteps:=9^7) (disch:=first|with_reducible assumption|omega) only [dxB]|(simp only [kdB];split)|(simp only [kvB];split))
   ·rw [if_neg q1]
    by_cases k5 : c = 1
    ·have k6 : ¬ d = 1:=fun h => q1 ⟨k5,h⟩
     subst k5; repeat' (first|simp (maxSteps:=9^7) only [seval,exC,Zbt,h1,h2,k2,k4,k6]|simp (maxSteps:=9^7) (disch:=first|with_reducible assumption|omega) only [dxB]|(simp only [kdB];split)|(simp only [kvB];split))
    ·repeat' (first|simp (maxSteps:=9^7) only [seval,exC,Zbt,h1,h2,k1,k2,k3,k4,k5]|simp (maxSteps:=9^7) (disch:=first|with_reducible assumption|omega) only [dxB]|(simp only [kdB];split)|(simp only [kvB];split))
theorem ZGR (F : Fm) (a b : Nat) : Bd (sqD F a b) 65537:=(ZeC (Zcw (ZcF F a) (ZcF F a)) (Zcw (ZcF F b) (ZcF F b))).mono (by decide)
theorem ZCC (F : Fm) (a b : Nat) : Nz (sqD F a b):=ZgM (Zcx _ _) (Zcx _ _)
end Go.Cv
namespace Go.Cv
variable {G : Nat→Option (List AV)} {T : Tbl} {g : Nat}
theorem ZgJ (J : Al G T g) (F : Fm) {a b : Nat} (ha : a < 2 * F.sg) (hb : b < 2 * F.sg) : run G T 237 [.int .u8 F.u,zA a b] = some (.int .u8 (zcl (F.cls a) (F.cls b))):=by
 rw [Zab G T J.H.ZgJ]
 have h1:=ZaB J F (Zbm ha)
 have h2:=ZaB J F (Zbm hb)
 unfold zcl
 generalize F.cls a = c at *
 generalize F.cls b = d at *
 simp only [zA] at *
 by_cases q4 : c = 4∨d = 4
 ·rw [if_pos q4]
  by_cases k : c = 4
  ·repeat' (first|simp (maxSteps:=9^7) only [seval,exC,ZaY,h1,h2,k]|simp (maxSteps:=9^7) (disch:=first|with_reducible assumption|omega) only [dxB]|(simp only [kdB];split)|(simp only [kvB];split))
  ·have k2 : d = 4:=by omega
   repeat' (first|simp (maxSteps:=9^7) only [seval,exC,ZaY,h1,h2,k,k2]|simp (maxSteps:=9^7) (disch:=first|with_reducible assumption|omega) only [dxB]|(simp only [kdB];split)|(simp only [kvB];split))
 ·rw [if_neg q4]
  have k1 : ¬ c = 4:=by omega
  have k2 : ¬ d = 4:=by omega
  by_cases q5 : c = 5∨d = 5
  ·rw [if_pos q5]
   by_cases k : c = 5
   ·subst k; repeat' (first|simp (maxSteps:=9^7) only [seval,exC,ZaY,h1,h2,k2]|simp (maxSteps:=9^7) (disch:=first|with_reducible assumption|omega) only [dxB]|(simp only [kdB];split)|(simp only [kvB];split))
   ·have k3 : d = 5:=by omega
    subst k3; repeat' (first|simp (maxSteps:=9^7) only [seval,exC,ZaY,h1,h2,k,k1]|simp (maxSteps:=9^7) (disch:=first|with_reducible assumption|omega) only [dxB]|(simp only [kdB];split)|(simp only [kvB];split))
  ·rw [if_neg q5]
   have k3 : ¬ c = 5:=by omega
   have k4 : ¬ d = 5:=by omega
   by_cases q1 : c = 1∧d = 1
   ·rw [if_pos q1]
    obtain ⟨rfl,rfl⟩:=q1
    repeat' (first|simp (maxSteps:=9^7) only [seval,exC,ZaY,h1,h2]|simp (maxSteps:=9^7) (disch:=first|with_reducible assumption|omega) only [dxB]|(simp only [kdB];split)|(simp only [kvB];split))
   ·rw [if_neg q1]
    by_cases k5 : c = 1
    ·have k6 : ¬ d = 1:=fun h => q1 ⟨k5,h⟩
     subst k5; repeat' (first|simp (maxSteps:=9^7) only [seval,exC,ZaY,h1,h2,k2,k4,k6]|simp (maxSteps:=9^7) (disch:=first|with_reducible assumption|omega) only [dxB]|(simp only [kdB];split)|(simp only [kvB];split))
    ·repeat' (first|simp (maxSteps:=9^7) only [seval,exC,ZaY,h1,h2,k1,k2,k3,k4,k5]|simp (maxSteps:=9^7) (disch:=first|with_reducible assumption|omega) only [dxB]|(simp only [kdB];split)|(simp only [kvB];split))
theorem ZjQ (e : Env) (h : Heap) : evL G T ZgC e h = kS G T (evL G T ZaF (keepE [0,1,5] e) h) ZgC:=Zad G T rfl e h
section
variable (x y u v : AV) (k : IntKind)
theorem ZDn : iaddrV 2 (.imm 1 [x,y]) (.int k 0) = some (.iptr [x,y] 0):=rfl
theorem ZvJ : iaddrV 2 (.imm 2 [x,y,u,v]) (.int k 0) = some (.iptr [x,y,u,v] 0):=rfl
theorem ZvK : iaddrV 2 (.imm 2 [x,y,u,v]) (.int k 1) = some (.iptr [x,y,u,v] 2):=rfl
theorem fa_i (off o : Nat) (cs : List AV) : faddrA off (.iptr cs o) = some (.iptr cs (o + off)):=rfl
theorem rp_3 (h : Mem) (l : List AV) : rdAt G h 1 (.iptr (x :: y :: u :: v :: l) 3) = some [v]:=by simp [rdAt]
end
theorem Zdo (F : CallF) (d : Option Nat) (os : List IOper) (e : Env) (h : Heap) (n : Nat) (zero : List AV) (ps : List (Nat × Nat × IOpd)) : evOps G F (⟨d,.bslice n 2 zero ps,none⟩ :: os) e h =
  kBs G F (fillA (repA n zero) (ps.map fun (o,n,x) => (o,n,opd e x))) (.own h.b.length 0 n 2) d os e h:=Zin G F d os e h n 2 zero ps
theorem ZsH (J : Al G T g) (F : Fm) {a b : Nat} (ha : a < 18446744073709551616) (hb : b < 18446744073709551616) :
  run G T 185 [.int .u8 F.u,.imm 1 [.int .u64 (a : Int),.int .u64 (b : Int)]] = some (.int .i64 (if a < 2 * F.sg∧b < 2 * F.sg then 0 else 6)):=by
 rw [Zab G T J.U.ref10_Good]
 have h1:=Zma J F
 have h3:=ZdK J F ha
 have h4:=ZdK J F hb
 by_cases k1 : a < 2 * F.sg
 ·rw [if_pos k1] at h3
  by_cases k2 : b < 2 * F.sg
  ·rw [if_pos k2] at h4
   rw [if_pos ⟨k1,k2⟩]
   repeat' (first|simp (maxSteps:=9^7) only [seval,exC,Zbb,h1,ZjQ,ZaF,ZDn,fa_i,rp_0,rp_1,wr_1,wr1,h3,h4]|simp (maxSteps:=9^7) (disch:=first|with_reducible assumption|omega) only [dxB]|(simp only [kdB];split)|(simp only [kvB];split))
  ·rw [if_neg k2] at h4
   rw [if_neg (fun h => k2 h.2)]
   repeat' (first|simp (maxSteps:=9^7) only [seval,exC,Zbb,h1,ZjQ,ZaF,ZDn,fa_i,rp_0,rp_1,wr_1,wr1,h3,h4]|simp (maxSteps:=9^7) (disch:=first|with_reducible assumption|omega) only [dxB]|(simp only [kdB];split)|(simp only [kvB];split))
 ·rw [if_neg k1] at h3
  rw [if_neg (fun h => k1 h.1)]
  repeat' (first|simp (maxSteps:=9^7) only [seval,exC,Zbb,h1,ZjQ,ZaF,ZDn,fa_i,rp_0,rp_1,wr_1,wr1,h3]|simp (maxSteps:=9^7) (disch:=first|with_reducible assumption|omega) only [dxB]|(simp only [kdB];split)|(simp only [kvB];split))
theorem ZsI (J : Al G T g) (F : Fm) {a b c d : Nat} (ha : a < 18446744073709551616) (hb : b < 18446744073709551616) (hc : c < 18446744073709551616) (hd : d < 18446744073709551616) :
  run G T 185 [.int .u8 F.u,.imm 2 [.int .u64 (a : Int),.int .u64 (b : Int),.int .u64 (c : Int),.int .u64 (d : Int)]] = some (.int .i64 (if (a < 2 * F.sg∧b < 2 * F.sg)∧(c < 2 * F.sg∧d < 2 * F.sg) then 0 else 6)):=by
 rw [Zab G T J.U.ref10_Good]
 have h1:=Zma J F
 have h3:=ZdK J F ha
 have h4:=ZdK J F hb
 have h5:=ZdK J F hc
 have h6:=ZdK J F hd
 by_cases k1 : a < 2 * F.sg
 ·rw [if_pos k1] at h3
  by_cases k2 : b < 2 * F.sg
  ·rw [if_pos k2] at h4
   by_cases k3 : c < 2 * F.sg
   ·rw [if_pos k3] at h5
    by_cases k4 : d < 2 * F.sg
    ·rw [if_pos k4] at h6
     rw [if_pos ⟨⟨k1,k2⟩,k3,k4⟩]
     repeat' (first|simp (maxSteps:=9^7) only [seval,exC,Zbb,h1,ZjQ,ZaF,ZvJ,ZvK,fa_i,rp_0,rp_1,rp_2,rp_3,wr_1,wr1,wr_2,wr2,h3,h4,h5,h6]|simp (maxSteps:=9^7) (disch:=first|with_reducible assumption|omega) only [dxB]|(simp only [kdB];split)|(simp only [kvB];split))
    ·rw [if_neg k4] at h6
     rw [if_neg (fun h => k4 h.2.2)]
     repeat' (first|simp (maxSteps:=9^7) only [seval,exC,Zbb,h1,ZjQ,ZaF,ZvJ,ZvK,fa_i,rp_0,rp_1,rp_2,rp_3,wr_1,wr1,wr_2,wr2,h3,h4,h5,h6]|simp (maxSteps:=9^7) (disch:=first|with_reducible assumption|omega) only [dxB]|(simp only [kdB];split)|(simp only [kvB];split))
   ·rw [if_neg k3] at h5
    rw [if_neg (fun h => k3 h.2.1)]
    repeat' (first|simp (maxSteps:=9^7) only [seval,exC,Zbb,h1,ZjQ,ZaF,ZvJ,ZvK,fa_i,rp_0,rp_1,rp_2,rp_3,wr_1,wr1,wr_2,wr2,h3,h4,h5]|simp (maxSteps:=9^7) (disch:=first|with_reducible assumption|omega) only [dxB]|(simp only [kdB];split)|(simp only [kvB];split))
  ·rw [if_neg k2] at h4
   rw [if_neg (fun h => k2 h.1.2)]
   repeat' (first|simp (maxSteps:=9^7) only [seval,exC,Zbb,h1,ZjQ,ZaF,ZvJ,ZvK,fa_i,rp_0,rp_1,rp_2,rp_3,wr_1,wr1,wr_2,wr2,h3,h4]|simp (maxSteps:=9^7) (disch:=first|with_reducible assumption|omega) only [dxB]|(simp only [kdB];split)|(simp only [kvB];split))
 ·rw [if_neg k1] at h3
  rw [if_neg (fun h => k1 h.1.1)]
  repeat' (first|simp (maxSteps:=9^7) only [seval,exC,Zbb,h1,ZjQ,ZaF,ZvJ,ZvK,fa_i,rp_0,rp_1,rp_2,rp_3,wr_1,wr1,wr_2,wr2,h3]|simp (maxSteps:=9^7) (disch:=first|with_reducible assumption|omega) only [dxB]|(simp only [kdB];split)|(simp only [kvB];split))
end Go.Cv
namespace Go.Cv
variable {G : Nat→Option (List AV)} {T : Tbl} {g : Nat}
def Fm.can (F : Fm) (w : Nat) : Nat:=if F.cls w = 5 then F.nan else w
def Fm.min (F : Fm) (w : Nat) : Nat:=if F.cls w = 5 then F.nan else F.flip w
def Sim (F : Fm) (a b : Nat) : Prop:=F.cls a = F.cls b∧mulD (F.vl a) (F.vl a) = mulD (F.vl b) (F.vl b)
theorem Sim.refl (F : Fm) (a : Nat) : Sim F a a:=⟨rfl,rfl⟩
theorem Sim.trans {F : Fm} {a b c : Nat} (h : Sim F a b) (k : Sim F b c) : Sim F a c:=⟨h.1.trans k.1,h.2.trans k.2⟩
theorem neg_mul (d : Dy) : mulD (negD d) (negD d) = mulD d d:=by
 unfold negD
 split
 ·rfl
 ·unfold mulD; simp only; cases d.n <;> rfl
theorem Zjg {a b : Dy} (h : a.m = 0∨b.m = 0) : mulD a b = ⟨false,0,0⟩:=by
 unfold mulD
 rcases h with h | h
 ·rw [h,Nat.zero_mul]; rfl
 ·rw [h,Nat.mul_zero]; rfl
theorem Zll (J : Al G T g) (F : Fm) {w : Nat} (hw : w < 2 * F.sg) : run G T 173 [.int .u8 F.u,.int .u64 (w : Int)] = some (.int .u64 (F.can w : Int)):=by
 rw [Zab G T J.U.Zll]
 have h1:=ZaB J F (Zbm hw)
 have h2:=ZeU J F
 unfold Fm.can
 generalize F.cls w = c at *
 by_cases h : c = 5
 ·rw [if_pos h]; subst h; repeat' (first|simp (maxSteps:=9^7) only [seval,exC,Zed,h1,h2]|simp (maxSteps:=9^7) (disch:=first|with_reducible assumption|omega) only [dxB]|(simp only [kdB];split)|(simp only [kvB];split))
 ·rw [if_neg h]; repeat' (first|simp (maxSteps:=9^7) only [seval,exC,Zed,h1,h2,h]|simp (maxSteps:=9^7) (disch:=first|with_reducible assumption|omega) only [dxB]|(simp only [kdB];split)|(simp only [kvB];split))
theorem fd_3 (b : Bool) (x y : AV) : fieldA false 0 1 (.agg [.bool b,x,y]) = some (.bool b):=rfl
theorem Zlm (J : Al G T g) (F : Fm) {w : Nat} (hw : w < 2 * F.sg) : run G T 188 [.int .u8 F.u,.int .u64 (w : Int)] = some (.int .u64 (F.min w : Int)):=by
 rw [Zab G T J.U.Zlm]
 have h1:=ZaB J F (Zbm hw)
 have h2:=ZeU J F
 have h3:=Zby J F (Zbm hw)
 have h4:=Zbd J F (n:=!F.ng w) (w:=w)
 rw [show w % F.sg + F.sgn (!F.ng w) = F.flip w from rfl] at h4
 unfold Fm.min
 generalize F.flip w = fw at *
 generalize F.cls w = c at *
 generalize F.ex w = x at *
 generalize F.fc w = y at *
 generalize F.ng w = n at *
 simp only [fldA] at *
 by_cases h : c = 5
 ·rw [if_pos h]; subst h; repeat' (first|simp (maxSteps:=9^7) only [seval,exC,Zeg,h1,h2]|simp (maxSteps:=9^7) (disch:=first|with_reducible assumption|omega) only [dxB]|(simp only [kdB];split)|(simp only [kvB];split))
 ·rw [if_neg h]
  cases n <;> (
   simp only [Bool.not_true,Bool.not_false] at h4
   repeat' (first|simp (maxSteps:=9^7) only [seval,exC,Zeg,h1,h,h3,fd_3,h4]|simp (maxSteps:=9^7) (disch:=first|with_reducible assumption|omega) only [dxB]|(simp only [kdB];split)|(simp only [kvB];split)))
theorem ZmM (J : Al G T g) (F : Fm) {a b : Nat} (ha : a < 2 * F.sg) (hb : b < 2 * F.sg) : run G T 172 [.int .u8 F.u,zA a b] = some (zA (F.can a) (F.min b)):=by
 rw [Zab G T J.U.ZmM]
 have h1:=Zll J F ha
 have h2:=Zlm J F hb
 simp only [zA] at *
 repeat' (first|simp (maxSteps:=9^7) only [seval,exC,Zhm,h1,h2]|simp (maxSteps:=9^7) (disch:=first|with_reducible assumption|omega) only [dxB]|(simp only [kdB];split)|(simp only [kvB];split))
theorem ZsU (F : Fm) (n : Bool) {k : Nat} {u : Int} (hk0 : k≠0) (hk1 : k < 2 ^ (F.fr + 1)) (hu : F.low≤u) (hku : u = F.low∨2 ^ F.fr≤k) (hs : F.enc k u < F.i0) : F.val (F.enc k u + F.sgn n) = mkD n k u:=by
 have hi:=Zdb F
 obtain ⟨e1,e2⟩:=Zdc n (by omega : F.enc k u < F.sg)
 have hp:=Nat.two_pow_pos F.fr
 rw [Nat.pow_succ] at hk1
 unfold Fm.val Fm.ex Fm.fc
 rw [e1,e2]
 rcases Nat.lt_or_ge k (2 ^ F.fr) with h | h
 ·have hul : u = F.low:=by
   rcases hku with q | q
   ·exact q
   ·omega
  have hE : F.enc k u = k:=by unfold Fm.enc; rw [hul,Int.sub_self]; simp
  rw [hE,Nat.div_eq_of_lt h,if_pos rfl,Nat.mod_eq_of_lt h,hul]
 ·have hE : F.enc k u = (k - 2 ^ F.fr) + 2 ^ F.fr * ((u - F.low).toNat + 1):=by
   unfold Fm.enc; rw [Nat.mul_add,Nat.mul_one,Nat.mul_comm]; omega
  have hlt : k - 2 ^ F.fr < 2 ^ F.fr:=by omega
  have hd : F.enc k u / 2 ^ F.fr = (u - F.low).toNat + 1:=by
   rw [hE,Nat.add_mul_div_left _ _ hp,Nat.div_eq_of_lt hlt,Nat.zero_add]
  have hm : F.enc k u % 2 ^ F.fr = k - 2 ^ F.fr:=by
   rw [hE,Nat.add_mul_mod_self_left,Nat.mod_eq_of_lt hlt]
  rw [hd,hm,if_neg (by omega),show 2 ^ F.fr + (k - 2 ^ F.fr) = k by omega]
  congr 1
  omega
theorem ZzM (F : Fm) {d : Dy} (h : F.fits d) (ho : d.m % 2 = 1) : ∃ s,s≠0∧s < F.i0∧F.val (s + F.sgn d.n) = d:=by
 obtain ⟨h0,h1,h2,h3⟩:=h
 have hF:=ZaH F
 obtain ⟨u,hu⟩ : ∃ u : Int,u = max (d.e + blen d.m - F.fr - 1) F.low:=⟨_,rfl⟩
 have hbp:=ZcG h0
 have hbk:=Zaq h0 (d.e - u).toNat
 have hk0 : d.m * 2 ^ (d.e - u).toNat≠0:=by intro hc; rw [hc,Zak] at hbk; omega
 have hk1 : d.m * 2 ^ (d.e - u).toNat < 2 ^ (F.fr + 1):=Zae.1 (by omega)
 have hku : u = F.low∨2 ^ F.fr≤d.m * 2 ^ (d.e - u).toNat:=by
  by_cases q : u = F.low
  ·exact Or.inl q
  ·right; exact ZaP.1 (by omega)
 have hbig:=Zlf F (n:=d.m * 2 ^ (d.e - u).toNat) (u:=u) (by omega) (by omega) hku
 have hs : F.enc (d.m * 2 ^ (d.e - u).toNat) u < F.i0:=by
  rcases Nat.lt_or_ge (F.enc (d.m * 2 ^ (d.e - u).toNat) u) F.i0 with q | q
  ·exact q
  ·have:=hbig.2 q; omega
 refine ⟨F.enc (d.m * 2 ^ (d.e - u).toNat) u,?_,hs,?_⟩
 ·unfold Fm.enc; omega
 ·rw [ZsU F d.n hk0 hk1 (by omega) hku hs]
  have:=ZlO (n:=d.n) (e:=d.e) ho (d.e - u).toNat
  rw [show d.e - ((d.e - u).toNat : Int) = u by omega] at this
  exact this
theorem ZkB (F : Fm) {w : Nat} (hf : F.fin w) (h0 : (F.val w).m≠0) : F.fits (F.val w):=by
 have hF:=ZaH F
 have hwd : F.low + F.fr + F.most - 1 = F.wide:=by cases F <;> decide
 have hy : F.fc w < 2 ^ F.fr:=Nat.mod_lt _ (Nat.two_pow_pos _)
 unfold Fm.fin at hf
 unfold Fm.val at h0 ⊢
 by_cases hx : F.ex w = 0
 ·rw [if_pos hx] at h0 ⊢
  have hk : F.fc w≠0:=by intro hc; rw [hc] at h0; exact h0 rfl
  have hb:=Zae.2 hy
  exact ZkD hk (by rw [Nat.pow_succ]; omega) (Int.le_refl _) (by omega)
 ·rw [if_neg hx] at h0 ⊢
  have hk : 2 ^ F.fr + F.fc w≠0:=by have:=Nat.two_pow_pos F.fr; omega
  have hb : blen (2 ^ F.fr + F.fc w)≤F.fr + 1:=Zae.2 (by rw [Nat.pow_succ]; omega)
  exact ZkD hk (by rw [Nat.pow_succ]; omega) (by omega) (by omega)
theorem sterbenz (F : Fm) {x y : Dy} (fx : x.m≠0→F.fits x) (fy : y.m≠0→F.fits y) (hn : x.n = y.n) (h1 : cmpD (absD x) (shD (absD y) 1)≤0) (h2 : cmpD (absD y) (shD (absD x) 1)≤0) (h0 : (subD x y).m≠0) : F.fits (subD x y):=by
 obtain ⟨L,hL⟩ : ∃ L : Int,L = min x.e y.e:=⟨_,rfl⟩
 have lx : LoE x L:=Or.inr (by omega)
 have ly : LoE y L:=Or.inr (by omega)
 have sh : ∀ (d : Dy) (h : LoE d L),iv (shD (absD d) 1) L = 2 * ((d.m * 2 ^ (d.e - L).toNat : Nat) : Int)∧LoE (shD (absD d) 1) L:=fun d h => by
  unfold shD absD
  by_cases q : d.m = 0
  ·simp only [q,if_true]; exact ⟨by simp [iv],Or.inl rfl⟩
  ·simp only [q,if_false]
   have hl:=h.resolve_left q
   refine ⟨?_,Or.inr (by simp only; omega)⟩
   unfold iv
   simp only [Bool.false_eq_true,if_false,Int.one_mul]
   rw [show (d.e + 1 - L).toNat = (d.e - L).toNat + 1 by omega,Nat.pow_succ,← Nat.mul_assoc]; omega
 have la : ∀ (d : Dy) (h : LoE d L),LoE (absD d) L:=fun d h => h
 rw [ZmT (la x lx) (sh y ly).2,Zxy,(sh y ly).1] at h1
 rw [ZmT (la y ly) (sh x lx).2,Zxy,(sh x lx).1] at h2
 have hs:=Zdn lx (Zmz ly)
 rw [Zpl] at hs
 rw [show addD x (negD y) = subD x y from rfl] at hs
 obtain ⟨hs1,hs2⟩:=hs
 have hle:=hs2.resolve_left h0
 unfold iv at hs1
 rw [hn] at hs1
 generalize hD : (subD x y).m * 2 ^ ((subD x y).e - L).toNat = D at *
 generalize hX : x.m * 2 ^ (x.e - L).toNat = X at *
 generalize hY : y.m * 2 ^ (y.e - L).toNat = Y at *
 have g1 : (X : Int)≤2 * Y:=by
  unfold sgI at h1; split at h1
  ·omega
  ·split at h1 <;> omega
 have g2 : (Y : Int)≤2 * X:=by
  unfold sgI at h2; split at h2
  ·omega
  ·split at h2 <;> omega
 have dX : D≤X∧D≤Y:=by
  generalize (subD x y).n = p at *
  generalize y.n = q at *
  cases p <;> cases q <;> simp only [Bool.false_eq_true,if_false,if_true] at hs1 <;> omega
 have Dp : 0 < D:=by rw [← hD]; exact Nat.mul_pos (Nat.pos_of_ne_zero h0) (Nat.two_pow_pos _)
 have x0 : x.m≠0:=by intro hc; rw [hc,Nat.zero_mul] at hX; omega
 have y0 : y.m≠0:=by intro hc; rw [hc,Nat.zero_mul] at hY; omega
 obtain ⟨_,x1,x2,x3⟩:=fx x0
 obtain ⟨_,y1,y2,y3⟩:=fy y0
 have bD:=Zaq h0 ((subD x y).e - L).toNat
 have bX:=Zaq x0 (x.e - L).toNat
 have bY:=Zaq y0 (y.e - L).toNat
 rw [hD] at bD
 rw [hX] at bX
 rw [hY] at bY
 have m1:=ZaE dX.1
 have m2:=ZaE dX.2
 exact ⟨h0,by omega,by omega,by omega⟩
theorem ZAs (F : Fm) (md : Int) {a b : Nat} (fa : F.fin a) (fb : F.fin b) :
  (F.cls a = 1∧F.cls b = 1∧subW F md a b = (F.sgn (F.ng a),0))∨subW F md a b = sumW F md (subD (F.vl a) (F.vl b)):=by
 have ra:=Zap.1 fa
 have rb:=Zap.1 fb
 unfold subW addP
 rw [if_neg (show ¬ (F.cls a = 5∨F.cls b = 5) by omega),if_neg (show ¬ (F.cls a = 4∧F.cls b = 4∧F.ng a≠!F.ng b) from fun h => by have:=h.1; omega),if_neg (show ¬ F.cls a = 4 by omega),if_neg (show ¬ F.cls b = 4 by omega)]
 by_cases h : F.cls a = 1∧F.cls b = 1∧F.ng a = !F.ng b
 ·left; rw [if_pos h]; exact ⟨h.1,h.2.1,rfl⟩
 ·right; rw [if_neg h]; rfl
theorem ZDW (F : Fm) {md : Int} {d : Dy} (hz : Nz d) (hf : d.m≠0→F.fits d) : ∃ w : Nat,sumW F md d = (w,0)∧w < 2 * F.sg∧F.fin w∧F.val w = d:=by
 have hi:=Zdb F
 unfold sumW
 by_cases h0 : d.m = 0
 ·rw [if_pos h0]
  refine ⟨F.sgn (decide (md = 5)),rfl,?_,?_,?_⟩
  ·unfold Fm.sgn; split <;> omega
  ·have:=ZbP (F:=F) (s:=0) (decide (md = 5)) hi.2.1
   rwa [Nat.zero_add] at this
  ·have:=ZkQ F (decide (md = 5))
   rw [Nat.zero_add] at this
   rw [this,hz.1 h0]
 ·rw [if_neg h0]
  obtain ⟨s,s0,s1,s2⟩:=ZzM F (hf h0) (hz.2 h0)
  have hr:=(Zmh F md d.n s1 s0).1
  rw [s2] at hr
  refine ⟨s + F.sgn d.n,hr,?_,ZbP d.n s1,s2⟩
  unfold Fm.sgn; split <;> omega
theorem near (F : Fm) {md : Int} {a b : Nat} (ha : a < 2 * F.sg) (hb : b < 2 * F.sg) (fa : F.fin a) (fb : F.fin b) (hn : (F.vl a).n = (F.vl b).n) (h1 : cmpD (absD (F.vl a)) (shD (absD (F.vl b)) 1)≤0) (h2 : cmpD (absD (F.vl b)) (shD (absD (F.vl a)) 1)≤0) :
  ∃ w : Nat,subW F md a b = (w,0)∧w < 2 * F.sg∧F.fin w∧F.val w = subD (F.vl a) (F.vl b):=by
 have hi:=Zdb F
 rcases ZAs F md fa fb with ⟨k1,k2,h⟩ | h
 ·rw [h]
  refine ⟨F.sgn (F.ng a),rfl,?_,?_,?_⟩
  ·unfold Fm.sgn; split <;> omega
  ·have:=ZbP (F:=F) (s:=0) (F.ng a) hi.2.1
   rwa [Nat.zero_add] at this
  ·have:=ZkQ F (F.ng a)
   rw [Nat.zero_add] at this
   rw [this,Zbu fa,Zbu fb,(ZeQ ha k1).2,(ZeQ hb k2).2]; rfl
 ·rw [h]
  refine ZDW F (ZgM (ZfJ F a) (Zpa (ZfJ F b))) (sterbenz F ?_ ?_ hn h1 h2)
  ·intro q; rw [Zbu fa] at q ⊢; exact ZkB F fa q
  ·intro q; rw [Zbu fb] at q ⊢; exact ZkB F fb q
def P2 (k : Nat) : Int:=((2 ^ k : Nat) : Int)
theorem ZnD (k : Nat) : 0 < P2 k:=by unfold P2; have:=Nat.two_pow_pos k; omega
theorem ZCD (k : Nat) : P2 (k + 1) = 2 * P2 k:=by unfold P2; rw [Nat.pow_succ]; omega
theorem ZnC {i k : Nat} (h : i≤k) : P2 i ∣ P2 k:=by
 unfold P2; exact Int.natCast_dvd_natCast.2 (Nat.pow_dvd_pow 2 h)
def bl (n : Int) : Nat:=blen n.natAbs
theorem ZCR {n : Int} {k : Nat} : bl n≤k↔(n < P2 k∧-n < P2 k):=by
 unfold bl P2; rw [Zae]; omega
theorem ZEB {n : Int} (h : n≠0) : P2 (bl n - 1)≤n∨P2 (bl n - 1)≤-n:=by
 unfold bl P2; have:=ZdC (n:=n.natAbs) (by omega); omega
theorem ZAI (n : Int) : bl (-n) = bl n:=by unfold bl; rw [Int.natAbs_neg]
theorem Zra {k : Nat} {x : Int} (h : P2 k ∣ x) (h1 : x < P2 k) (h2 : -x < P2 k) : x = 0:=by
 obtain ⟨q,rfl⟩:=h
 have hp:=ZnD k
 rcases Int.lt_trichotomy q 0 with hq | hq | hq
 ·have:=Int.mul_le_mul_of_nonneg_left (show q≤-1 by omega) (Int.le_of_lt hp); omega
 ·rw [hq,Int.mul_zero]
 ·have:=Int.mul_le_mul_of_nonneg_left (show 1≤q by omega) (Int.le_of_lt hp); omega
def Rep (p : Nat) (n : Int) : Prop:=P2 (bl n - p) ∣ n
def Rn (p : Nat) (n r : Int) : Prop:=Rep p r∧P2 (bl n - p) ∣ r∧2 * (r - n)≤P2 (bl n - p)∧2 * (n - r)≤P2 (bl n - p)
theorem Rep.neg {p : Nat} {n : Int} (h : Rep p n) : Rep p (-n):=by
 unfold Rep at h ⊢; rw [ZAI]; exact Int.dvd_neg.2 h
theorem ZAD {p i : Nat} {n : Int} (h1 : P2 i ∣ n) (h2 : bl n≤p + i) : Rep p n:=Int.dvd_trans (ZnC (by omega)) h1
theorem Zzl (p : Nat) : Rep p 0:=Int.dvd_zero _
theorem Rn.neg {p : Nat} {n r : Int} (h : Rn p n r) : Rn p (-n) (-r):=by
 obtain ⟨h0,h1,h2,h3⟩:=h
 unfold Rn; rw [ZAI]
 exact ⟨h0.neg,Int.dvd_neg.2 h1,by omega,by omega⟩
theorem Rn.exact {p : Nat} {n r : Int} (h : Rn p n r) {i : Nat} (hi : P2 i ∣ n) (hk : bl n - p≤i) : r = n:=by
 obtain ⟨_,h1,h2,h3⟩:=h
 have hp:=ZnD (bl n - p)
 have:=Zra (Int.dvd_sub h1 (Int.dvd_trans (ZnC hk) hi)) (by omega) (by omega)
 omega
theorem Rn.near {p : Nat} (hp : 1≤p) {n r c : Int} (h : Rn p n r) (hc : Rep p c) : r - n≤(c - n).natAbs∧n - r≤(c - n).natAbs:=by
 have key : ∀ c,P2 (bl n - p) ∣ c→r - n≤(c - n).natAbs∧n - r≤(c - n).natAbs:=fun c hc => by
  obtain ⟨_,h1,h2,h3⟩:=h
  by_cases q : r = c
  ·subst q; omega
  ·have hd:=Int.dvd_sub h1 hc
   have hs : ¬ (r - c < P2 (bl n - p)∧-(r - c) < P2 (bl n - p)):=fun q1 => q (by have:=Zra hd q1.1 q1.2; omega)
   omega
 by_cases q : bl n - p≤bl c - p
 ·exact key c (Int.dvd_trans (ZnC q) hc)
 ·have hb : bl c≤bl n - 1:=by omega
  have hn0 : n≠0:=by rintro rfl; have : bl 0 = 0:=rfl; omega
  have hc1:=ZCR.1 hb
  have hd : P2 (bl n - p) ∣ P2 (bl n - 1):=ZnC (by omega)
  have k1:=key _ hd
  have k2:=key _ (Int.dvd_neg.2 hd)
  have hpp:=ZnD (bl n - 1)
  rcases ZEB hn0 with h4 | h4 <;> omega
theorem Zqh (d : Dy) (L : Int) : (iv d L = ((d.m * 2 ^ (d.e - L).toNat : Nat) : Int)∧d.n = false)∨(iv d L = -((d.m * 2 ^ (d.e - L).toNat : Nat) : Int)∧d.n = true):=by
 unfold iv; cases d.n <;> simp
theorem ZCQ (d : Dy) (L : Int) : bl (iv d L) = blen (d.m * 2 ^ (d.e - L).toNat):=by
 unfold bl
 rcases Zqh d L with ⟨h,_⟩ | ⟨h,_⟩ <;> rw [h] <;> congr 1 <;> omega
theorem ZDJ (F : Fm) {d : Dy} (h0 : d.m≠0) (hl : F.low≤d.e) (hv : (rndW F 1 d).2≠20) :
  (rndW F 1 d).1 < 2 * F.sg∧F.fin (rndW F 1 d).1∧Rn (F.fr + 1) (iv d F.low) (iv (F.val (rndW F 1 d).1) F.low)∧LoE (F.val (rndW F 1 d).1) F.low:=by
 have hF:=ZaH F
 obtain ⟨b1,b2,_,_⟩:=Zki F (md:=1) h0
 obtain ⟨u,hu⟩ : ∃ u,u = F.eOf (d.e + blen d.m):=⟨_,rfl⟩
 have hue : u = max (d.e + blen d.m - F.fr - 1) F.low:=hu
 have hlo : F.low≤u:=by omega
 unfold rndW at hv ⊢
 simp only [if_neg h0] at hv ⊢
 rw [← hu] at b1 b2 hv ⊢
 have hbl : blen (d.m * 2 ^ (d.e - F.low).toNat) = blen d.m + (d.e - F.low).toNat:=Zaq h0 _
 have hk : (u - F.low).toNat = blen (d.m * 2 ^ (d.e - F.low).toNat) - (F.fr + 1):=by omega
 obtain ⟨A,hA⟩ : ∃ A,A = d.m * 2 ^ (d.e - F.low).toNat:=⟨_,rfl⟩
 have hnear : 2 * ((((rnd 1 d.n d.m d.e u).1 * 2 ^ (u - F.low).toNat : Nat) : Int) - (A : Int))≤P2 (u - F.low).toNat∧2 * ((A : Int) - (((rnd 1 d.n d.m d.e u).1 * 2 ^ (u - F.low).toNat : Nat) : Int))≤P2 (u - F.low).toNat:=by
  by_cases q : u = F.low
  ·have : rnd 1 d.n d.m d.e u = (A,true):=by unfold rnd; rw [if_pos (by omega),hA,q]
   rw [this,q,Int.sub_self]
   have : P2 (0 : Int).toNat = 1:=rfl
   rw [this]
   simp only [Int.toNat_zero,Nat.pow_zero,Nat.mul_one]; omega
  ·obtain ⟨b,e,R⟩:=Zpv 1 d.n d.m (E:=d.e) (u:=u) (L:=F.low) hl (by omega)
   rw [← hA] at e R
   rw [e]
   obtain ⟨n1,n2⟩:=R.near (Or.inl rfl)
   unfold P2
   generalize 2 ^ (u - F.low).toNat = U at *
   generalize A / U = W at *
   have q2 : (2 * W + 1) * U = 2 * (W * U) + U:=by rw [Nat.add_mul,Nat.one_mul,Nat.mul_assoc]
   rw [q2] at n1 n2
   have lo:=R.lo
   have hi:=R.hi
   rw [Nat.add_mul,Nat.one_mul] at hi
   simp only [Nat.add_mul]
   generalize W * U = V at *
   cases b
   ·have:=n2 rfl; simp only [Bool.toNat_false,Nat.zero_mul]; omega
   ·have:=n1 rfl; simp only [Bool.toNat_true,Nat.one_mul]; omega
 generalize (rnd 1 d.n d.m d.e u).1 = K at *
 unfold wordOf at hv ⊢
 have hbig:=Zlf F (n:=K) (u:=u) b1 hlo b2
 by_cases ov : F.wide < blen K + u
 ·rw [if_pos ov] at hv; exact absurd rfl hv
 ·rw [if_neg ov]
  have hi:=Zdb F
  have hs : F.enc K u < F.i0:=by
   rcases Nat.lt_or_ge (F.enc K u) F.i0 with q | q
   ·exact q
   ·exact absurd (hbig.2 q) ov
  obtain ⟨v1,v2,_⟩:=Zri (F:=F) d.n hs
  rw [ZlM F b1 hlo b2] at v1
  refine ⟨by unfold Fm.sgn; split <;> omega,ZbP d.n hs,?_,v2⟩
  have hd : P2 (u - F.low).toNat ∣ ((K * 2 ^ (u - F.low).toNat : Nat) : Int):=Int.natCast_dvd_natCast.2 ⟨K,Nat.mul_comm _ _⟩
  have hrep : Rep (F.fr + 1) ((K * 2 ^ (u - F.low).toNat : Nat) : Int):=by
   rcases Nat.lt_or_ge K (2 ^ (F.fr + 1)) with q | q
   ·refine ZAD hd ?_
    rw [ZCR]
    unfold P2
    rw [Nat.pow_add]
    have:=Nat.mul_lt_mul_of_pos_right q (Nat.two_pow_pos (u - F.low).toNat)
    generalize K * 2 ^ (u - F.low).toNat = X at *
    omega
   ·rw [show K = 2 ^ (F.fr + 1) by omega,← Nat.pow_add]
    refine ZAD (i:=(u - F.low).toNat + 1) (ZnC (by omega)) ?_
    rw [ZCR,show F.fr + 1 + ((u - F.low).toNat + 1) = (F.fr + 1 + (u - F.low).toNat) + 1 by omega,ZCD]
    have:=ZnD (F.fr + 1 + (u - F.low).toNat)
    unfold P2 at *
    omega
  simp only [] at v1 ⊢
  rw [v1]
  unfold Rn
  rw [ZCQ,← hk]
  rcases Zqh d F.low with ⟨e,en⟩ | ⟨e,en⟩
  ·rw [e,en,← hA]; simp only [Bool.false_eq_true,if_false,Int.one_mul]
   exact ⟨hrep,hd,hnear.1,hnear.2⟩
  ·rw [e,en,← hA]; simp only [if_true]
   rw [Int.neg_mul,Int.one_mul]
   exact ⟨hrep.neg,Int.dvd_neg.2 hd,by omega,by omega⟩
def Fm.X (F : Fm) (w : Nat) : Int:=iv (F.vl w) F.low
theorem Zbe {F : Fm} {w : Nat} (hf : F.fin w) : LoE (F.vl w) F.low:=by
 by_cases h : (F.vl w).m = 0
 ·exact Or.inl h
 ·right; rw [Zbu hf] at h ⊢; exact (ZkB F hf h).2.2.1
theorem ZsK (p : Nat) : Rn p 0 0:=⟨Zzl p,Int.dvd_zero _,by have:=ZnD (bl 0 - p); omega,by have:=ZnD (bl 0 - p); omega⟩
theorem Zvi (F : Fm) {d : Dy} (hl : LoE d F.low) (hv : (sumW F 1 d).2≠20) : (sumW F 1 d).1 < 2 * F.sg∧F.fin (sumW F 1 d).1∧Rn (F.fr + 1) (iv d F.low) (F.X (sumW F 1 d).1):=by
 have hi:=Zdb F
 unfold sumW at hv ⊢
 by_cases h0 : d.m = 0
 ·rw [if_pos h0,ZaO h0]
  have e : F.sgn (decide ((1 : Int) = 5)) = 0:=rfl
  have hf : F.fin 0:=by have:=ZbP (F:=F) (s:=0) false hi.2.1; exact this
  refine ⟨by simp only [e]; omega,by simp only [e]; exact hf,?_⟩
  simp only [e]
  unfold Fm.X
  rw [Zbu hf]
  have:=ZkQ F false
  rw [show 0 + F.sgn false = 0 from rfl] at this
  rw [this,ZaO rfl]
  exact ZsK _
 ·rw [if_neg h0] at hv ⊢
  obtain ⟨h1,h2,h3,h4⟩:=ZDJ F h0 (hl.resolve_left h0) hv
  refine ⟨h1,h2,?_⟩
  unfold Fm.X; rw [Zbu h2]; exact h3
theorem Zjy {F : Fm} {w : Nat} (hw : w < 2 * F.sg) (h : F.cls w = 1) : F.X w = 0:=by
 have hf : F.fin w:=Zap.2 (Or.inl h)
 unfold Fm.X
 rw [Zbu hf,(ZeQ hw h).2,ZaO rfl]
theorem Zkl (F : Fm) (n : Bool) : F.sgn n < 2 * F.sg∧F.fin (F.sgn n)∧F.vl (F.sgn n) = ⟨false,0,0⟩:=by
 have hi:=Zdb F
 have h:=ZbP (F:=F) (s:=0) n hi.2.1
 have h2:=ZkQ F n
 rw [Nat.zero_add] at h h2
 exact ⟨by unfold Fm.sgn; split <;> omega,h,by rw [Zbu h,h2]⟩
theorem Zwg (F : Fm) (n : Bool) : F.X (F.sgn n) = 0:=by unfold Fm.X; rw [(Zkl F n).2.2,ZaO rfl]
theorem Ziw (F : Fm) (md : Int) {c c' : Int} {n n' : Bool} {d d' : Dy} (h1 : c = 1∨c = 2∨c = 3) (h2 : c' = 1∨c' = 2∨c' = 3) :
  addP F md c n d c' n' d' = if c = 1∧c' = 1∧n = n' then (F.sgn n,0) else sumW F md (addD d d'):=by
 unfold addP
 rw [if_neg (by omega),if_neg (by omega),if_neg (by omega),if_neg (by omega)]
theorem Zwj (F : Fm) {a b : Nat} (ha : a < 2 * F.sg) (hb : b < 2 * F.sg) (fa : F.fin a) (fb : F.fin b) (hv : (addW F 1 a b).2≠20) :
  (addW F 1 a b).1 < 2 * F.sg∧F.fin (addW F 1 a b).1∧Rn (F.fr + 1) (F.X a + F.X b) (F.X (addW F 1 a b).1):=by
 unfold addW at hv ⊢
 rw [Ziw F 1 (Zap.1 fa) (Zap.1 fb)] at hv ⊢
 by_cases q : F.cls a = 1∧F.cls b = 1∧F.ng a = F.ng b
 ·rw [if_pos q]
  refine ⟨(Zkl F _).1,(Zkl F _).2.1,?_⟩
  rw [Zjy ha q.1,Zjy hb q.2.1,Zwg]; exact ZsK _
 ·rw [if_neg q] at hv ⊢
  obtain ⟨i1,i2⟩:=Zdn (Zbe fa) (Zbe fb)
  have:=Zvi F i2 hv
  rw [i1] at this; exact this
theorem ZyR (F : Fm) {a b : Nat} (ha : a < 2 * F.sg) (hb : b < 2 * F.sg) (fa : F.fin a) (fb : F.fin b) (hv : (subW F 1 a b).2≠20) :
  (subW F 1 a b).1 < 2 * F.sg∧F.fin (subW F 1 a b).1∧Rn (F.fr + 1) (F.X a - F.X b) (F.X (subW F 1 a b).1):=by
 unfold subW at hv ⊢
 rw [Ziw F 1 (Zap.1 fa) (Zap.1 fb)] at hv ⊢
 by_cases q : F.cls a = 1∧F.cls b = 1∧F.ng a = !F.ng b
 ·rw [if_pos q]
  refine ⟨(Zkl F _).1,(Zkl F _).2.1,?_⟩
  rw [Zjy ha q.1,Zjy hb q.2.1,Zwg]; exact ZsK _
 ·rw [if_neg q] at hv ⊢
  obtain ⟨i1,i2⟩:=ZlJ (Zbe fa) (Zbe fb)
  have:=Zvi F i2 hv
  rw [i1] at this; exact this
theorem Zjb {F : Fm} {w : Nat} (hw : w < 2 * F.sg) (hf : F.fin w) : F.cls w = 1↔(F.vl w).m = 0:=by
 rw [Zbu hf]
 constructor
 ·intro h; rw [(ZeQ hw h).2]
 ·intro h
  have h1:=fun q => ZsT hw q hf
  exact Decidable.byContradiction fun q => h1 q h
theorem Znk (F : Fm) (md : Int) {c c' : Int} {n n' : Bool} {d d' : Dy} (h1 : c = 1∨c = 2∨c = 3) (h2 : c' = 1∨c' = 2∨c' = 3) :
  mulP F md c n d c' n' d' = if c = 1∨c' = 1 then (F.sgn (n != n'),0) else sumW F md (mulD d d'):=by
 unfold mulP
 rw [if_neg (by omega),if_neg (by omega),if_neg (by omega)]
theorem ZFN {a b : Dy} (ha : Nz a) (hb : Nz b) (h1 : a.m≠0) (h2 : b.m≠0) : mulD a b = ⟨a.n != b.n,a.m * b.m,a.e + b.e⟩:=by
 unfold mulD; exact Zoi (ZsF (ha.2 h1) (hb.2 h2))
theorem ZbU {a b : Dy} {K L : Int} (ha : LoE a K) (hb : LoE b L) : iv (mulD a b) (K + L) = iv a K * iv b L∧LoE (mulD a b) (K + L):=by
 by_cases h1 : a.m = 0
 ·have : mulD a b = ⟨false,0,0⟩:=Zjg (Or.inl h1)
  rw [this,ZaO rfl,ZaO h1,Int.zero_mul]; exact ⟨rfl,Or.inl rfl⟩
 ·by_cases h2 : b.m = 0
  ·have : mulD a b = ⟨false,0,0⟩:=Zjg (Or.inr h2)
   rw [this,ZaO rfl,ZaO h2,Int.mul_zero]; exact ⟨rfl,Or.inl rfl⟩
  ·have la:=ha.resolve_left h1
   have lb:=hb.resolve_left h2
   refine ⟨?_,ZcY (by omega)⟩
   unfold mulD
   rw [ZhN (by omega),show (a.e + b.e - (K + L)).toNat = (a.e - K).toNat + (b.e - L).toNat by omega,Nat.pow_add]
   unfold iv
   have e : a.m * b.m * (2 ^ (a.e - K).toNat * 2 ^ (b.e - L).toNat) = (a.m * 2 ^ (a.e - K).toNat) * (b.m * 2 ^ (b.e - L).toNat):=by
    simp only [Nat.mul_assoc,Nat.mul_left_comm,Nat.mul_comm]
   rw [e,Int.natCast_mul]
   generalize ((a.m * 2 ^ (a.e - K).toNat : Nat) : Int) = x
   generalize ((b.m * 2 ^ (b.e - L).toNat : Nat) : Int) = y
   cases a.n <;> cases b.n <;> simp [Int.neg_mul,Int.mul_neg]
theorem ZzZ (a b : Dy) : mulD a (negD b) = negD (mulD a b):=by
 by_cases h1 : a.m = 0
 ·rw [Zjg (Or.inl h1),Zjg (Or.inl h1)]; rfl
 ·by_cases h2 : b.m = 0
  ·rw [Zjg (Or.inr h2),Zjg (Or.inr (by unfold negD; rw [if_pos h2]; exact h2))]; rfl
  ·have h3 : a.m * b.m≠0:=by have:=Nat.mul_pos (Nat.pos_of_ne_zero h1) (Nat.pos_of_ne_zero h2); omega
   have e1 : negD b = ⟨!b.n,b.m,b.e⟩:=by unfold negD; rw [if_neg h2]
   unfold mulD
   rw [e1]
   simp only
   have e2:=ZlN (n:=a.n != b.n) h3 (a.e + b.e)
   unfold negD
   rw [if_neg e2,Zaj h3,Zaj h3]
   cases a.n <;> cases b.n <;> rfl
theorem ZAh (F : Fm) {md : Int} {a b : Dy} (h0 : a.m≠0) (h1 : b.m≠0) (hf : (quoW F md a b).2 = 0∨(quoW F md a b).2 = 16) :
  ∃ (K N kk : Nat) (u : Int),F.fin (quoW F md a b).1∧(quoW F md a b).1 < 2 * F.sg∧F.val (quoW F md a b).1 = mkD (a.n != b.n) K u∧u + b.e = a.e - N + kk∧((quoW F md a b).2 = 16→u≤(a.e + blen a.m) - (b.e + blen b.m) + 1 - F.fr) ∧
   (a.m * 2 ^ N≤K * b.m * 2 ^ kk + b.m * 2 ^ kk)∧K * b.m * 2 ^ kk≤a.m * 2 ^ N + b.m * 2 ^ kk∧((quoW F md a b).2 = 0→a.m * 2 ^ N = K * b.m * 2 ^ kk):=by
 have hF:=ZaH F
 have hi:=Zdb F
 have hqb:=Zjj (k:=64) h0 h1
 unfold quoW at hf ⊢
 obtain ⟨N,hN⟩ : ∃ N,N = quoN 64 a.m b.m:=⟨_,rfl⟩
 rw [← hN] at hf hqb ⊢
 have hdm:=Nat.div_add_mod (a.m * 2 ^ N) b.m
 have hml:=Nat.mod_lt (a.m * 2 ^ N) (Nat.pos_of_ne_zero h1)
 have hbA : blen (a.m * 2 ^ N) = blen a.m + N:=Zaq h0 N
 obtain ⟨A,hA⟩ : ∃ A,A = a.m * 2 ^ N:=⟨_,rfl⟩
 rw [← hA] at hdm hml hbA hqb hf ⊢
 obtain ⟨Q,hQ⟩ : ∃ Q,Q = A / b.m:=⟨_,rfl⟩
 rw [← hQ] at hdm hqb hf ⊢
 have hQb : blen Q + blen b.m≤blen A + 1:=by
  have q0 : Q≠0:=by rintro rfl; rw [Zak] at hqb; omega
  have e1:=ZdC q0
  have e2:=ZdC h1
  have e3:=Nat.mul_le_mul e2 e1
  rw [← Nat.pow_add] at e3
  have e4:=ZbK A
  have e5 : blen b.m - 1 + (blen Q - 1) < blen A:=by
   refine (Nat.pow_lt_pow_iff_right (a:=2) (by decide)).1 (Nat.lt_of_le_of_lt e3 (Nat.lt_of_le_of_lt ?_ e4))
   omega
  have:=ZcG h1
  omega
 obtain ⟨E,hE⟩ : ∃ E : Int,E = a.e - b.e - (N : Nat):=⟨_,rfl⟩
 rw [← hE] at hf ⊢
 unfold sW at hf ⊢
 obtain ⟨u,hu⟩ : ∃ u,u = F.eOf (E + blen Q):=⟨_,rfl⟩
 have hue : u = max (E + blen Q - F.fr - 1) F.low:=hu
 rw [← hu] at hf ⊢
 obtain ⟨kk,hkk⟩ : ∃ kk,kk = (u - E).toNat:=⟨_,rfl⟩
 rw [← hkk] at hf ⊢
 have k0 : 0 < kk:=by omega
 -- the count of units
 obtain ⟨lost,hlost⟩ : ∃ l,l = !decide (A % b.m = 0):=⟨_,rfl⟩
 rw [← hlost] at hf ⊢
 obtain ⟨up,hup⟩ : ∃ up : Bool,(rdN md (a.n != b.n) Q lost kk).1 = Q / 2 ^ kk + up.toNat∧((rdN md (a.n != b.n) Q lost kk).2 = true→up = false∧Q % 2 ^ kk = 0∧A % b.m = 0):=by
  refine ⟨_,rfl,fun h => ?_⟩
  simp only [rdN,Bool.and_eq_true,Bool.not_eq_true'] at h
  obtain ⟨q1,_,_⟩:=Zif Q k0
  rw [h.1,h.2]
  refine ⟨ZCt _ _ _,?_,?_⟩
  ·have h2:=h.2
   simp only [moreN,Bool.or_eq_false_iff,decide_eq_false_iff_not,ne_eq,Decidable.not_not] at h2
   rw [q1,h.1,h2.2]; rfl
  ·have h2:=h.2
   simp only [moreN,Bool.or_eq_false_iff] at h2
   have h3:=h2.1
   rw [hlost] at h3
   simpa using h3
 have hbd : (rdN md (a.n != b.n) Q lost kk).1≤2 ^ (F.fr + 1):=by
  rw [hup.1]
  have hb1 : blen (Q / 2 ^ kk)≤F.fr + 1:=by rw [Zam]; omega
  have:=Zae.1 hb1
  cases up <;> simp <;> omega
 have hlo2 : u = F.low∨2 ^ F.fr≤(rdN md (a.n != b.n) Q lost kk).1:=by
  by_cases q : u = F.low
  ·exact Or.inl q
  ·right
   have : 2 ^ F.fr≤Q / 2 ^ kk:=ZaP.1 (by rw [Zam]; omega)
   rw [hup.1]; omega
 have hfine : blen (rdN md (a.n != b.n) Q lost (blen Q - F.fr - 1)).1≤F.fr + 2:=by
  have hb1 : blen (Q / 2 ^ (blen Q - F.fr - 1))≤F.fr + 1:=by rw [Zam]; omega
  have h2:=Zae.1 hb1
  have hb : ∀ b : Bool,b.toNat≤1:=fun b => by cases b <;> decide
  rw [Zae,show F.fr + 2 = (F.fr + 1) + 1 by omega,Nat.pow_succ]
  simp only [rdN]
  have:=hb (upB md (a.n != b.n) (decide (Q / 2 ^ (blen Q - F.fr - 1) % 2 = 1)) (halfN Q (blen Q - F.fr - 1)) (moreN Q lost (blen Q - F.fr - 1)))
  have h3:=Nat.two_pow_pos (F.fr + 1)
  omega
 generalize hK : (rdN md (a.n != b.n) Q lost kk).1 = K at *
 generalize (rdN md (a.n != b.n) Q lost (blen Q - F.fr - 1)).1 = fine at *
 generalize (rdN md (a.n != b.n) Q lost kk).2 = ex at *
 unfold wordOf at hf ⊢
 have hbig:=Zlf F (n:=K) (u:=u) hbd (by omega) hlo2
 by_cases ov : F.wide < blen K + u
 ·rw [if_pos ov] at hf; simp only at hf; omega
 ·rw [if_neg ov] at hf ⊢
  have hs : F.enc K u < F.i0:=by
   rcases Nat.lt_or_ge (F.enc K u) F.i0 with q | q
   ·exact q
   ·exact absurd (hbig.2 q) ov
  obtain ⟨v1,v2,v3⟩:=Zri (F:=F) (a.n != b.n) hs
  rw [ZlM F hbd (by omega) hlo2] at v1
  have hval : F.val (F.enc K u + F.sgn (a.n != b.n)) = mkD (a.n != b.n) K u:=Zrv v3 (Zlt _ _ _) v2 (ZcY (by omega)) (by rw [v1,ZhN (by omega)])
  -- S
  have hS1 : Q * b.m = Q / 2 ^ kk * b.m * 2 ^ kk + Q % 2 ^ kk * b.m:=by
   have e:=Nat.div_add_mod Q (2 ^ kk)
   conv => lhs; rw [← e]
   rw [Nat.add_mul]
   congr 1
   rw [Nat.mul_assoc,Nat.mul_comm]
  have hS2 : Q % 2 ^ kk * b.m + A % b.m < b.m * 2 ^ kk:=by
   have e:=Nat.mod_lt Q (Nat.two_pow_pos kk)
   have:=Nat.mul_le_mul_left b.m (show Q % 2 ^ kk + 1≤2 ^ kk from e)
   rw [Nat.mul_add,Nat.mul_one,Nat.mul_comm b.m (Q % 2 ^ kk)] at this
   omega
  have hdm' : Q * b.m + A % b.m = A:=by rw [Nat.mul_comm]; exact hdm
  have hKb : K * b.m * 2 ^ kk = Q / 2 ^ kk * b.m * 2 ^ kk + up.toNat * (b.m * 2 ^ kk):=by rw [hup.1,Nat.add_mul,Nat.add_mul,Nat.mul_assoc up.toNat]
  refine ⟨K,N,kk,u,ZbP _ hs,by unfold Fm.sgn; split <;> omega,hval,by omega,?_,?_,?_,?_⟩
  ·intro hf
   simp only at hf
   have : ¬ ((blen fine : Int) + (E + blen Q - F.fr - 1) < F.low + F.fr + 1):=by
    intro q; rw [if_pos q] at hf; split at hf <;> omega
   omega
  ·rw [← hA,hKb]
   generalize Q / 2 ^ kk * b.m * 2 ^ kk = X at *
   generalize b.m * 2 ^ kk = Y at *
   cases up <;> simp <;> omega
  ·rw [← hA,hKb]
   generalize Q / 2 ^ kk * b.m * 2 ^ kk = X at *
   generalize b.m * 2 ^ kk = Y at *
   cases up <;> simp <;> omega
  ·intro h
   have hx : ex = true:=by
    cases ex
    ·simp only [Bool.false_eq_true,if_false] at h; split at h <;> simp at h
    ·rfl
   obtain ⟨x1,x2,x3⟩:=hup.2 hx
   rw [← hA,hKb,x1,← hdm',x3,hS1,x2]; simp
theorem units {K kk : Nat} {u E low L : Int} (h1 : u = E + kk) (h2 : L≤E) (h3 : low≤u) (h4 : L≤low) : K * 2 ^ (u - low).toNat * 2 ^ (low - L).toNat = K * 2 ^ kk * 2 ^ (E - L).toNat:=by
 rw [Nat.mul_assoc,← Nat.pow_add,Nat.mul_assoc,← Nat.pow_add]; congr 2; omega
theorem Zjx (x : Int) : 0≤x * x:=by
 rcases Int.le_total 0 x with h | h
 ·exact Int.mul_nonneg h h
 ·have:=Int.mul_nonneg (Int.neg_nonneg.2 h) (Int.neg_nonneg.2 h)
  rwa [Int.neg_mul_neg] at this
theorem ZHr {x y : Int} (hy : 0≤y) (h : x * x≤y * y) : x≤y:=by
 rcases Int.lt_or_le y x with q | q
 ·have:=Int.mul_lt_mul_of_pos_left q (show 0 < x by omega)
  have h2:=Int.mul_le_mul_of_nonneg_right (Int.le_of_lt q) hy
  omega
 ·exact q
def NB (x y n : Int) : Prop:=0≤n∧x * x + y * y≤n * n
theorem NB.mono {x y a b : Int} (h : NB x y a) (hab : a≤b) : NB x y b :=
 ⟨Int.le_trans h.1 hab,Int.le_trans h.2 (Int.mul_le_mul hab hab h.1 (Int.le_trans h.1 hab))⟩
theorem NB.add {x y z w a b : Int} (h : NB x y a) (k : NB z w b) : NB (x + z) (y + w) (a + b):=by
 obtain ⟨a0,h1⟩:=h
 obtain ⟨b0,k1⟩:=k
 refine ⟨by omega,?_⟩
 have e : (x * z + y * w) * (x * z + y * w)≤(a * b) * (a * b):=by
  have c1 : (x * z + y * w) * (x * z + y * w) + (x * w - y * z) * (x * w - y * z) = (x * x + y * y) * (z * z + w * w):=by grind
  have c2:=Zjx (x * w - y * z)
  have c3:=Int.mul_le_mul h1 k1 (by have:=Zjx z; have:=Zjx w; omega) (by have:=Zjx a; omega)
  have c4 : a * a * (b * b) = (a * b) * (a * b):=by grind
  omega
 have f:=ZHr (Int.mul_nonneg a0 b0) e
 have g : (x + z) * (x + z) + (y + w) * (y + w) = (x * x + y * y) + (z * z + w * w) + 2 * (x * z + y * w):=by grind
 have g2 : (a + b) * (a + b) = a * a + b * b + 2 * (a * b):=by grind
 omega
theorem NB.mul {x y z w a b : Int} (h : NB x y a) (k : NB z w b) : NB (x * z - y * w) (x * w + y * z) (a * b):=by
 obtain ⟨a0,h1⟩:=h
 obtain ⟨b0,k1⟩:=k
 refine ⟨Int.mul_nonneg a0 b0,?_⟩
 have c1 : (x * z - y * w) * (x * z - y * w) + (x * w + y * z) * (x * w + y * z) = (x * x + y * y) * (z * z + w * w):=by grind
 have c3:=Int.mul_le_mul h1 k1 (by have:=Zjx z; have:=Zjx w; omega) (by have:=Zjx a; omega)
 have c4 : a * a * (b * b) = (a * b) * (a * b):=by grind
 omega
theorem NB.scale {x y a k : Int} (h : NB x y a) (hk : 0≤k) : NB (k * x) (k * y) (k * a):=by
 refine ⟨Int.mul_nonneg hk h.1,?_⟩
 have e:=Int.mul_le_mul_of_nonneg_left h.2 (Zjx k)
 have e1 : k * k * (x * x + y * y) = k * x * (k * x) + k * y * (k * y):=by grind
 have e2 : k * k * (a * a) = k * a * (k * a):=by grind
 omega
theorem NB.parts {x y x' y' a : Int} (h : NB x' y' a) (hx : x.natAbs≤x'.natAbs) (hy : y.natAbs≤y'.natAbs) : NB x y a:=by
 refine ⟨h.1,Int.le_trans ?_ h.2⟩
 have s : ∀ u v : Int,u.natAbs≤v.natAbs→u * u≤v * v:=fun u v q => by
  have:=Nat.mul_le_mul q q
  rw [← Int.natAbs_mul_self,← Int.natAbs_mul_self (a:=v)]
  exact Int.ofNat_le.2 this
 have:=s x x' hx
 have:=s y y' hy
 omega
theorem ZFr (F : Fm) {a b : Nat} {L : Int} (la : LoE (F.vl a) L) (lb : LoE (F.vl b) L) : iv (sqD F a b) (2 * L) = iv (F.vl a) L * iv (F.vl a) L + iv (F.vl b) L * iv (F.vl b) L:=by
 obtain ⟨p1,p2⟩:=ZbU la la
 obtain ⟨q1,q2⟩:=ZbU lb lb
 unfold sqD
 rw [show 2 * L = L + L by omega,(Zdn p2 q2).1,p1,q1]
theorem Zhx (J : Al G T g) (F : Fm) {a b : Nat} (ha : a < 2 * F.sg) (hb : b < 2 * F.sg) : run G T 250 [.int .u8 F.u,zA a b] = some (.bool (decide (F.fin a∧F.fin b))):=by
 rw [Zab G T J.J.Zhx]
 have f1:=Zhw J F (Zbm ha)
 have f2:=Zhw J F (Zbm hb)
 simp only [zA]
 by_cases p : F.fin a
 ·rw [decide_eq_true p] at f1
  by_cases q : F.fin b
  ·rw [decide_eq_true q] at f2
   rw [decide_eq_true (show F.fin a∧F.fin b from ⟨p,q⟩)]
   repeat' (first|simp (maxSteps:=9^7) only [seval,exC,Zcj,f1,f2]|simp (maxSteps:=9^7) (disch:=first|with_reducible assumption|omega) only [dxB]|(simp only [kdB];split)|(simp only [kvB];split))
  ·rw [decide_eq_false q] at f2
   rw [decide_eq_false (show ¬ (F.fin a∧F.fin b) from fun h => q h.2)]
   repeat' (first|simp (maxSteps:=9^7) only [seval,exC,Zcj,f1,f2]|simp (maxSteps:=9^7) (disch:=first|with_reducible assumption|omega) only [dxB]|(simp only [kdB];split)|(simp only [kvB];split))
 ·rw [decide_eq_false p] at f1
  rw [decide_eq_false (show ¬ (F.fin a∧F.fin b) from fun h => p h.1)]
  repeat' (first|simp (maxSteps:=9^7) only [seval,exC,Zcj,f1]|simp (maxSteps:=9^7) (disch:=first|with_reducible assumption|omega) only [dxB]|(simp only [kdB];split)|(simp only [kvB];split))
def zrA (p q : Nat × Nat) : AV:=.agg [.int .u64 (p.1 : Int),.int .u64 (q.1 : Int),.int .u8 (p.2 : Int),.int .u8 (q.2 : Int)]
def numA (z : Bool) (x : Dy × Bool) : AV:=.agg [.bool x.1.n,D z (dl x.1.m),.int .i64 x.1.e,.bool x.2]
def tm (F : Fm) (a b : Nat) (minus : Bool) : Dy × Bool:=(if minus then negD (mulD (F.vl a) (F.vl b)) else mulD (F.vl a) (F.vl b),(F.ng a != F.ng b) != minus)
def zsg (md : Int) (x y : Dy × Bool) : Bool:=if x.1.m = 0∧y.1.m = 0∧x.2 = y.2 then x.2 else decide (md = 5)
def ptQ (F : Fm) (md : Int) (d : Dy) (n : Bool) (by' : Dy) : Nat × Nat:=if d.m = 0 then (F.sgn n,0) else quoW F md d by'
theorem ZdN (F : Fm) (a b : Nat) : Bd (mulD (F.vl a) (F.vl b)) 2400:=by
 have hF:=ZaH F
 by_cases h1 : (F.vl a).m = 0
 ·rw [Zjg (Or.inl h1)]; exact ⟨by simp only [Zak]; omega,by simp,by simp⟩
 ·by_cases h2 : (F.vl b).m = 0
  ·rw [Zjg (Or.inr h2)]; exact ⟨by simp only [Zak]; omega,by simp,by simp⟩
  ·have fa : F.fin a:=by
    by_cases h : F.fin a
    ·exact h
    ·exfalso; apply h1; unfold Fm.vl; rw [if_neg h]
   have fb : F.fin b:=by
    by_cases h : F.fin b
    ·exact h
    ·exfalso; apply h2; unfold Fm.vl; rw [if_neg h]
   have e1:=ZkB F fa (by rw [← Zbu fa]; exact h1)
   have e2:=ZkB F fb (by rw [← Zbu fb]; exact h2)
   rw [← Zbu fa] at e1
   rw [← Zbu fb] at e2
   obtain ⟨_,a1,a2,a3⟩:=e1
   obtain ⟨_,b1,b2,b3⟩:=e2
   have hb:=ZwG a1 b1
   rw [ZFN (ZfJ F a) (ZfJ F b) h1 h2]
   exact ⟨by simp only; omega,by simp only; omega,by simp only; omega⟩
theorem ZgL (F : Fm) (a b : Nat) (s : Bool) : Bd (tm F a b s).1 2400∧Nz (tm F a b s).1:=by
 unfold tm; cases s
 ·exact ⟨ZdN F a b,Zcx _ _⟩
 ·exact ⟨(ZdN F a b).neg,Zpa (Zcx _ _)⟩
theorem Zje (J : Al G T g) (F : Fm) {w : Nat} (hw : w < 2 * F.sg) :
  ∃ z,run G T 296 [.int .u8 F.u,.int .u64 (w : Int)] = some (numA z (F.vl w,F.ng w)):=by
 apply exP
 rw [Zab G T J.J.Zje]
 obtain ⟨z,k,h1⟩:=Zis J F hw
 have h2:=ZeW J F hw
 generalize F.vl w = v at *
 generalize F.ng w = n at *
 simp only [fldA,DyA,A3,numA] at *
 repeat' (first|simp (maxSteps:=9^7) only [seval,exC,ZfL,h1,h2]|simp (maxSteps:=9^7) (disch:=first|with_reducible assumption|omega) only [dxB]|(simp only [kdB];split)|(simp only [kvB];split))
 all_goals exact ⟨_,rfl,z,rfl⟩
theorem Zbc (J : Al G T g) {z y n k : Bool} {a b : Dy} (na : Nz a) (nb : Nz b) (ha : Bd a 16384) (hb : Bd b 16384) :
  ∃ z',run G T 278 [numA z (a,n),numA y (b,k)] = some (numA z' (mulD a b,n != k)):=by
 apply exP
 rw [Zab G T J.J.Zbc]
 obtain ⟨z',h1⟩:=ZpR J (z:=z) (y:=y) ha hb (Zex na (ha.mono (by decide))) (Zex nb (hb.mono (by decide)))
 generalize mulD a b = d at *
 have hne : (n != k) = !decide (n = k):=by cases n <;> cases k <;> rfl
 rw [hne]
 simp only [DyA,A3,numA] at *
 repeat' (first|simp (maxSteps:=9^7) only [seval,exC,ZcI,h1]|simp (maxSteps:=9^7) (disch:=first|with_reducible assumption|omega) only [dxB]|(simp only [kdB];split)|(simp only [kvB];split))
 all_goals exact ⟨_,rfl,z',rfl⟩
theorem Zes (J : Al G T g) {z n : Bool} {a : Dy} (na : Nz a) (ha : Bd a 131072) :
  ∃ z',run G T 279 [numA z (a,n)] = some (numA z' (negD a,!n)):=by
 apply exP
 rw [Zab G T J.J.Zes]
 obtain ⟨z',h1⟩:=ZpS J (z:=z) (d:=a) (Zex na ha)
 generalize negD a = d at *
 simp only [DyA,A3,numA] at *
 repeat' (first|simp (maxSteps:=9^7) only [seval,exC,ZcH,h1]|simp (maxSteps:=9^7) (disch:=first|with_reducible assumption|omega) only [dxB]|(simp only [kdB];split)|(simp only [kvB];split))
 all_goals exact ⟨_,rfl,z',rfl⟩
theorem Zfn (J : Al G T g) {z y n k : Bool} {a b : Dy} {md : Int} (na : Nz a) (nb : Nz b) (ha : Bd a 16384) (hb : Bd b 16384) :
  ∃ z' s,run G T 295 [numA z (a,n),numA y (b,k),.int .u8 md] = some (numA z' (addD a b,s))∧((addD a b).m = 0→s = zsg md (a,n) (b,k)):=by
 rw [Zab G T J.J.Zfn]
 obtain ⟨z',h1⟩:=Zng J (z:=z) (y:=y) ha hb (Zex na (ha.mono (by decide))) (Zex nb (hb.mono (by decide)))
 have md':=Zex (ZgM na nb) ((ZeC ha hb).mono (by decide))
 have ma':=Zex na (ha.mono (by decide))
 have s1:=ZgG J (n:=(addD a b).n) (z:=z') (ZaA (addD a b).m) (e:=(addD a b).e)
 rw [Zmn md'] at s1
 have s2:=ZgG J (n:=a.n) (z:=z) (ZaA a.m) (e:=a.e)
 rw [Zmn ma'] at s2
 have hz : (addD a b).m = 0→a.m = 0→b.m = 0:=by intro h ha0; unfold addD at h; rw [if_pos ha0] at h; exact h
 unfold zsg
 generalize addD a b = d at *
 clear md' ma' na nb ha hb
 obtain ⟨an,am,ae⟩:=a
 obtain ⟨dn,dm,de⟩:=d
 simp only [DyA,A3,numA] at *
 by_cases d0 : dm = 0
 ·rw [if_pos d0] at s1
  by_cases a0 : am = 0
  ·rw [if_pos a0] at s2
   have b0:=hz d0 a0
   by_cases e : n = k
   ·refine ⟨z',n,?_,fun _ => by rw [if_pos ⟨a0,b0,e⟩]⟩
    subst e
    repeat' (first|simp (maxSteps:=9^7) only [seval,exC,Zbj,h1,s1,s2]|simp (maxSteps:=9^7) (disch:=first|with_reducible assumption|omega) only [dxB]|(simp only [kdB];split)|(simp only [kvB];split))
   ·refine ⟨z',decide (md = 5),?_,fun _ => by rw [if_neg (fun h => e h.2.2)]⟩
    repeat' (first|simp (maxSteps:=9^7) only [seval,exC,Zbj,h1,s1,s2,e]|simp (maxSteps:=9^7) (disch:=first|with_reducible assumption|omega) only [dxB]|(simp only [kdB];split)|(simp only [kvB];split))
  ·rw [if_neg a0] at s2
   refine ⟨z',decide (md = 5),?_,fun _ => by rw [if_neg (fun h => a0 h.1)]⟩
   cases an <;> (simp only [Bool.false_eq_true,if_false,if_true] at s2; repeat' (first|simp (maxSteps:=9^7) only [seval,exC,Zbj,h1,s1,s2]|simp (maxSteps:=9^7) (disch:=first|with_reducible assumption|omega) only [dxB]|(simp only [kdB];split)|(simp only [kvB];split)))
 ·rw [if_neg d0] at s1
  refine ⟨z',dn,?_,fun h => absurd h d0⟩
  cases dn <;> (simp only [Bool.false_eq_true,if_false,if_true] at s1; repeat' (first|simp (maxSteps:=9^7) only [seval,exC,Zbj,h1,s1]|simp (maxSteps:=9^7) (disch:=first|with_reducible assumption|omega) only [dxB]|(simp only [kdB];split)|(simp only [kvB];split)))
def gaussA (z y : Bool) (p q : Dy × Bool) : AV:=.agg [.bool p.1.n,D z (dl p.1.m),.int .i64 p.1.e,.bool p.2,.bool q.1.n,D y (dl q.1.m),.int .i64 q.1.e,.bool q.2]
def workA (F : Fm) (md : Int) : AV:=.agg [.int .u8 F.u,.int .u8 md]
def oneD : Dy:=⟨false,1,0⟩
theorem ZcR (J : Al G T g) (F : Fm) {a b : Nat} (ha : a < 2 * F.sg) (hb : b < 2 * F.sg) :
  ∃ z y,run G T 271 [.int .u8 F.u,zA a b] = some (gaussA z y (F.vl a,F.ng a) (F.vl b,F.ng b)):=by
 rw [Zab G T J.J.ZcR]
 obtain ⟨z,h1⟩:=Zje J F ha
 obtain ⟨y,h2⟩:=Zje J F hb
 refine ⟨z,y,?_⟩
 generalize F.vl a = v at *
 generalize F.ng a = n at *
 generalize F.vl b = w at *
 generalize F.ng b = k at *
 simp only [zA,gaussA,numA] at *
 repeat' (first|simp (maxSteps:=9^7) only [seval,exC,ZdR,h1,h2]|simp (maxSteps:=9^7) (disch:=first|with_reducible assumption|omega) only [dxB]|(simp only [kdB];split)|(simp only [kvB];split))
theorem Zdt (J : Al G T g) (F : Fm) {md : Int} {z1 z2 y1 y2 n1 n2 k1 k2 : Bool} {a b c d : Dy} (na : Nz a) (nb : Nz b) (nc : Nz c) (nd : Nz d) (ha : Bd a 4096) (hb : Bd b 4096) (hc : Bd c 4096) (hd : Bd d 4096) :
  ∃ z y s t,run G T 270 [workA F md,gaussA z1 z2 (a,n1) (b,n2),gaussA y1 y2 (c,k1) (d,k2)] = some (gaussA z y (addD (mulD a c) (negD (mulD b d)),s) (addD (mulD a d) (mulD b c),t)) ∧
   ((addD (mulD a c) (negD (mulD b d))).m = 0→s = zsg md (mulD a c,n1 != k1) (negD (mulD b d),!(n2 != k2)))∧((addD (mulD a d) (mulD b c)).m = 0→t = zsg md (mulD a d,n1 != k2) (mulD b c,n2 != k1)):=by
 rw [Zab G T J.J.Zdt]
 obtain ⟨u1,h1⟩:=Zbc J (z:=z1) (y:=y1) (n:=n1) (k:=k1) na nc (ha.mono (by decide)) (hc.mono (by decide))
 obtain ⟨u2,h2⟩:=Zbc J (z:=z2) (y:=y2) (n:=n2) (k:=k2) nb nd (hb.mono (by decide)) (hd.mono (by decide))
 obtain ⟨u3,h3⟩:=Zes J (z:=u2) (n:=n2 != k2) (Zcx b d) ((Zcw hb hd).mono (by decide))
 obtain ⟨u4,s,h4,e4⟩:=Zfn J (z:=u1) (y:=u3) (n:=n1 != k1) (k:=!(n2 != k2)) (md:=md) (Zcx a c) (Zpa (Zcx b d)) (Zcw ha hc) (Zcw hb hd).neg
 obtain ⟨u5,h5⟩:=Zbc J (z:=z1) (y:=y2) (n:=n1) (k:=k2) na nd (ha.mono (by decide)) (hd.mono (by decide))
 obtain ⟨u6,h6⟩:=Zbc J (z:=z2) (y:=y1) (n:=n2) (k:=k1) nb nc (hb.mono (by decide)) (hc.mono (by decide))
 obtain ⟨u7,t,h7,e7⟩:=Zfn J (z:=u5) (y:=u6) (n:=n1 != k2) (k:=n2 != k1) (md:=md) (Zcx a d) (Zcx b c) (Zcw ha hd) (Zcw hb hc)
 refine ⟨u4,u7,s,t,?_,e4,e7⟩
 clear e4 e7 ha hb hc hd na nb nc nd
 generalize addD (mulD a c) (negD (mulD b d)) = X at *
 generalize addD (mulD a d) (mulD b c) = Y at *
 generalize negD (mulD b d) = e at *
 generalize mulD a c = m1 at *
 generalize mulD b d = m2 at *
 generalize mulD a d = m3 at *
 generalize mulD b c = m4 at *
 generalize (!(n2 != k2)) = q0 at *
 generalize (n1 != k1) = q1 at *
 generalize (n2 != k2) = q2 at *
 generalize (n1 != k2) = q3 at *
 generalize (n2 != k1) = q4 at *
 simp only [gaussA,workA,numA] at *
 repeat' (first|simp (maxSteps:=9^7) only [seval,exC,Zcq,h1,h2,h3,h4,h5,h6,h7]|simp (maxSteps:=9^7) (disch:=first|with_reducible assumption|omega) only [dxB]|(simp only [kdB];split)|(simp only [kvB];split))
theorem Zeu (J : Al G T g) (F : Fm) {md : Int} (hm : 1≤md∧md≤5) {z y s : Bool} {d b : Dy} (nd : Nz d) (nb : Nz b) (hd : Bd d 65537) (hb : Bd b 65537) (b0 : b.m≠0) :
  run G T 294 [workA F md,numA z (d,s),DyA y b] = some (.tup [.int .u64 ((ptQ F md d s b).1 : Int),.int .u8 ((ptQ F md d s b).2 : Int)]):=by
 rw [Zab G T J.J.Zeu]
 have ma:=Zex nd (hd.mono (by decide))
 have s1:=ZgG J (n:=d.n) (z:=z) (ZaA d.m) (e:=d.e)
 rw [Zmn ma] at s1
 unfold ptQ
 by_cases d0 : d.m = 0
 ·rw [if_pos d0] at s1 ⊢
  have w1:=Zmv J F (n:=s)
  generalize F.sgn s = S at *
  simp only [workA,numA,DyA,A3,cast0] at *
  repeat' (first|simp (maxSteps:=9^7) only [seval,exC,ZbR,s1,w1]|simp (maxSteps:=9^7) (disch:=first|with_reducible assumption|omega) only [dxB]|(simp only [kdB];split)|(simp only [kvB];split))
 ·rw [if_neg d0] at s1 ⊢
  have hbl:=hd.bl
  have hbb:=hb.bl
  have r1:=ZoG J F hm (z:=z) (y:=y) ma (Zex nb (hb.mono (by decide))) d0 b0 (by unfold quoN; omega)
  generalize quoW F md d b = S at *
  obtain ⟨n,m,e⟩:=d
  simp only [workA,numA,DyA,A3] at *
  cases n <;> (simp only [Bool.false_eq_true,if_false,if_true] at s1; repeat' (first|simp (maxSteps:=9^7) only [seval,exC,ZbR,s1,r1]|simp (maxSteps:=9^7) (disch:=first|with_reducible assumption|omega) only [dxB]|(simp only [kdB];split)|(simp only [kvB];split)))
theorem Zet (J : Al G T g) (F : Fm) {md : Int} (hm : 1≤md∧md≤5) {z z' y s t : Bool} {d e b : Dy} (nd : Nz d) (ne : Nz e) (nb : Nz b) (hd : Bd d 65537) (he : Bd e 65537) (hb : Bd b 65537) (b0 : b.m≠0) :
  run G T 269 [workA F md,gaussA z z' (d,s) (e,t),DyA y b] = some (zrA (ptQ F md d s b) (ptQ F md e t b)):=by
 rw [Zab G T J.J.Zet]
 have h1:=Zeu J F hm (z:=z) (y:=y) (s:=s) nd nb hd hb b0
 have h2:=Zeu J F hm (z:=z') (y:=y) (s:=t) ne nb he hb b0
 generalize ptQ F md d s b = S1 at *
 generalize ptQ F md e t b = S2 at *
 simp only [workA,numA,gaussA,zrA,DyA,A3] at *
 repeat' (first|simp (maxSteps:=9^7) only [seval,exC,ZcJ,h1,h2]|simp (maxSteps:=9^7) (disch:=first|with_reducible assumption|omega) only [dxB]|(simp only [kdB];split)|(simp only [kvB];split))
theorem ZwX (J : Al G T g) : ∃ z,run G T 272 [.int .i64 1] = some (DyA z oneD):=by
 apply exP
 rw [Zab G T J.J.ZpQ]
 obtain ⟨z1,h1⟩:=Zoo J (n:=1) (by decide)
 obtain ⟨z2,h2⟩:=ZbT J (n:=false) (z:=z1) (a:=1) (e:=0) (Zas (by decide)) (Or.inr (by rw [ZrZ (by decide)]; omega)) (by omega)
 rw [show mkD false 1 0 = oneD from Zoi (by decide)] at h2
 have w1 : IntKind.u64.wrap 1 = 1:=rfl
 rw [show ((1 : Nat) : Int) = 1 from rfl] at h1
 generalize oneD = d at *
 simp only [DyA,A3] at *
 repeat' (first|simp (maxSteps:=9^7) only [seval,exC,ZhT,w1,h1,h2]|simp (maxSteps:=9^7) (disch:=first|with_reducible assumption|omega) only [dxB]|(simp only [kdB];split)|(simp only [kvB];split))
 all_goals exact ⟨_,rfl,z2,rfl⟩
noncomputable def kV2 (G : Nat→Option (List AV)) (T : Tbl) (f : AV) (args : List AV) (d : Option Nat) (os : List IOper) (e : Env) (h : Heap) : Option (Env × Heap) :=
 kW G (CF G T) (match f with
  | .fn k cap => (T k).bind fun fn => kJ G fn.res (evL G T fn.body (numE 0 (args ++ cap)) h)
  | _ => none) d os e
theorem ZAr (t : Nat) (args : List IOpd) (d : Option Nat) (os : List IOper) (e : Env) (h : Heap) :
  evOps G (CF G T) (⟨d,.call true (.t t) args,none⟩ :: os) e h = kV2 G T (opd e (.t t)) (args.map (opd e)) d os e h:=by
 rw [ZuV]
 unfold kV2
 refine congrArg (fun o => kW G (CF G T) o d os e) ?_
 simp only [evW]
 cases opd e (.t t) <;> try rfl
 rename_i k cap
 simp only [Zwb]
 cases T k with
 | none => rfl
 | some fn =>
  simp only [Option.bind_some]
  cases evL G T fn.body (numE 0 (args.map (opd e) ++ cap)) h with
  | none => rfl
  | some r => obtain ⟨x,e,h⟩:=r; cases x <;> rfl
theorem ZFC {k : Nat} {fn : IFn} (hf : T k = some fn) (cap args : List AV) (d : Option Nat) (os : List IOper) (e : Env) (h : Heap) :
  kV2 G T (.fn k cap) args d os e h = kW G (CF G T) (kJ G fn.res (evL G T fn.body (numE 0 (args ++ cap)) h)) d os e:=by
 unfold kV2; simp only [hf,Option.bind_some]
theorem Zzg {k w : Nat} (h : w < 2 ^ k) : w ^^^ 2 ^ k = 2 ^ k + w:=by
 apply Nat.eq_of_testBit_eq
 intro j
 rw [Nat.testBit_xor]
 rcases Nat.lt_trichotomy j k with q | q | q
 ·rw [Nat.testBit_two_pow_of_ne (by omega),Nat.testBit_two_pow_add_gt q,Bool.xor_false]
 ·subst q
  rw [Nat.testBit_two_pow_self,Nat.testBit_two_pow_add_eq,Nat.testBit_lt_two_pow h]; rfl
 ·have h2:=Nat.pow_le_pow_right (n:=2) (by decide) (show k + 1≤j from q)
  rw [Nat.pow_succ] at h2
  rw [Nat.testBit_two_pow_of_ne (by omega),Nat.testBit_lt_two_pow (by omega),Nat.testBit_lt_two_pow (by omega)]; rfl
theorem ZGN (F : Fm) {w : Nat} (hw : w < 2 * F.sg) : w ^^^ F.sg = F.flip w:=by
 obtain ⟨k,hk⟩ : ∃ k,F.sg = 2 ^ k:=by cases F; exact ⟨31,rfl⟩; exact ⟨63,rfl⟩
 unfold Fm.flip Fm.ng Fm.sgn
 rw [hk] at hw ⊢
 have hp:=Nat.two_pow_pos k
 by_cases h : 2 ^ k≤w
 ·rw [decide_eq_true h,Bool.not_true,if_neg (by decide),Nat.mod_eq_sub_mod h,Nat.mod_eq_of_lt (by omega),Nat.add_zero]
  have e:=Zzg (k:=k) (w:=w - 2 ^ k) (by omega)
  rw [show 2 ^ k + (w - 2 ^ k) = w by omega] at e
  rw [← e,Nat.xor_assoc,Nat.xor_self,Nat.xor_zero]
  rw [e]
 ·rw [decide_eq_false h,Bool.not_false,if_pos rfl,Nat.mod_eq_of_lt (by omega),Zzg (by omega),Nat.add_comm]
theorem xor64 {a b : Nat} (ha : a < 18446744073709551616) (hb : b < 18446744073709551616) : xorI .u64 (a : Int) (b : Int) = ((a ^^^ b : Nat) : Int):=by
 have : a ^^^ b < 2 ^ 64:=Nat.xor_lt_two_pow (n:=64) ha hb
 rw [ZqO]
 show IntKind.u64.wrap ((BitVec.ofInt 64 a ^^^ BitVec.ofInt 64 b).toNat : Int) = _
 simp only [BitVec.toNat_xor,BitVec.toNat_ofInt,Zdv]
 have e1 : ((a : Int) % (2 ^ 64 : Nat)).toNat = a:=by omega
 have e2 : ((b : Int) % (2 ^ 64 : Nat)).toNat = b:=by omega
 rw [e1,e2]; omega
theorem Zny (J : Al G T g) (F : Fm) {w : Nat} (hw : w < 2 * F.sg) : run G T 310 [.int .u8 F.u,.int .u64 (w : Int)] = some (.tup [.int .u64 (F.min w : Int),.int .i64 0]):=by
 rw [Zab G T J.J.Zny]
 have h1:=Zit J F (Zbm hw)
 rw [if_pos hw] at h1
 have h2:=ZmP J F hw
 have h3:=Zsb J F
 have x1:=xor64 (a:=w) (b:=F.sg) (Zbm hw) (by cases F <;> decide)
 rw [ZGN F hw] at x1
 have kv:=fun cap args d os e h => ZFC (G:=G) (T:=T) J.J.word_Neg_1 cap args d os e h
 have kt:=fun d args os e h => Zbi (G:=G) (T:=T) J.J.word_turned d args os e h
 unfold Fm.min
 by_cases h5 : F.cls w = 5
 ·rw [if_pos h5]
  rw [h5] at h2
  simp only [shA] at *
  repeat' (first|simp (maxSteps:=9^7) only [seval,exC,ZhZ,kt,Zeq,h1,h2,h3]|simp (maxSteps:=9^7) (disch:=first|with_reducible assumption|omega) only [dxB]|(simp only [kdB];split)|(simp only [kvB];split))
 ·rw [if_neg h5]
  generalize F.cls w = c at *
  simp only [shA] at *
  repeat' (first|simp (maxSteps:=9^7) only [seval,exC,ZhZ,kt,Zeq,h1,h2,h5,ZAr,kv,Zhp,ZxD,x1]|simp (maxSteps:=9^7) (disch:=first|with_reducible assumption|omega) only [dxB]|(simp only [kdB];split)|(simp only [kvB];split))
def sd (F : Fm) (w : Nat) (inf : Bool) : Int × Bool :=
 if F.cls w = 5 then (0,false) else if (if inf then F.cls w = 4 else F.cls w≠1) then (if F.ng w then (-1,true) else (1,false)) else (0,F.ng w)
def sT (a b : Int × Bool) : Int × Bool:=(a.1 * b.1,a.2 != b.2)
def sM (a : Int × Bool) : Int × Bool:=(-a.1,!a.2)
def sP (md : Int) (a b : Int × Bool) : Int × Bool:=if a.1 + b.1≠0 then (a.1 + b.1,decide (a.1 + b.1 < 0)) else if a.1 = 0∧a.2 = b.2 then a else (0,decide (md = 5))
def SdC (p : Int × Bool) : Prop:=p = (-1,true)∨p = (1,false)∨p = (0,true)∨p = (0,false)
theorem sd_c (F : Fm) (w : Nat) (inf : Bool) : SdC (sd F w inf):=by
 unfold sd SdC
 by_cases h : F.cls w = 5
 ·rw [if_pos h]; simp
 ·rw [if_neg h]
  by_cases k : (if inf then F.cls w = 4 else F.cls w≠1)
  ·rw [if_pos k]; cases F.ng w <;> simp
  ·rw [if_neg k]; cases F.ng w <;> simp
theorem sT_c {a b : Int × Bool} (ha : SdC a) (hb : SdC b) : SdC (sT a b):=by
 rcases ha with rfl | rfl | rfl | rfl <;> rcases hb with rfl | rfl | rfl | rfl <;> simp [SdC,sT]
theorem sM_c {a : Int × Bool} (ha : SdC a) : SdC (sM a):=by
 rcases ha with rfl | rfl | rfl | rfl <;> simp [SdC,sM]
def bxT (md : Int) (p q r s : Int × Bool) : (Int × Bool) × (Int × Bool):=(sP md (sT p r) (sM (sT q s)),sP md (sT p s) (sT q r))
def Fm.one (F : Fm) : Nat:=F.most / 2 * 2 ^ F.fr
def bw (F : Fm) (p : Int × Bool) : Nat:=if p.1 = 0 then F.sgn p.2 else F.one + F.sgn p.2
theorem ZjT (F : Fm) (n : Bool) : F.one≠0∧F.one < F.i0∧F.val (F.one + F.sgn n) = ⟨n,1,0⟩:=by
 have e : F.one = F.enc (2 ^ F.fr) (-F.fr):=by cases F <;> decide
 refine ⟨by cases F <;> decide,by cases F <;> decide,?_⟩
 rw [e,ZsU F n (by have:=Nat.two_pow_pos F.fr; omega) (by rw [Nat.pow_succ]; have:=Nat.two_pow_pos F.fr; omega) (by cases F <;> decide) (Or.inr (Nat.le_refl _)) (by cases F <;> decide)]
 have:=ZlO (n:=n) (m:=1) (e:=0) (by decide) F.fr
 rwa [Nat.one_mul,Int.zero_sub] at this
theorem ZrY (F : Fm) (n : Bool) : F.one + 2 ^ F.fr≠0∧F.one + 2 ^ F.fr < F.i0∧F.val (F.one + 2 ^ F.fr + F.sgn n) = ⟨n,1,1⟩:=by
 have e : F.one + 2 ^ F.fr = F.enc (2 ^ F.fr) (1 - F.fr):=by cases F <;> decide
 refine ⟨by cases F <;> decide,by cases F <;> decide,?_⟩
 rw [e,ZsU F n (by have:=Nat.two_pow_pos F.fr; omega) (by rw [Nat.pow_succ]; have:=Nat.two_pow_pos F.fr; omega) (by cases F <;> decide) (Or.inr (Nat.le_refl _)) (by cases F <;> decide)]
 have:=ZlO (n:=n) (m:=1) (e:=1) (by decide) F.fr
 rwa [Nat.one_mul] at this
theorem ZeA (F : Fm) (n : Bool) : F.sgn n < 2 * F.sg∧F.ng (F.sgn n) = n∧F.cls (F.sgn n) = 1∧F.vl (F.sgn n) = ⟨false,0,0⟩:=by
 have hi:=Zdb F
 obtain ⟨g1,g2,g3⟩:=Zkl F n
 have h2:=(Zdc (F:=F) (s:=0) n (by omega)).2
 rw [Nat.zero_add] at h2
 exact ⟨g1,h2,by rw [Zjb g1 g2,g3],g3⟩
theorem ZhR (F : Fm) {s : Nat} {d : Dy} (n : Bool) (h0 : s≠0) (h1 : s < F.i0) (hv : F.val (s + F.sgn n) = d) (hm : d.m≠0) : s + F.sgn n < 2 * F.sg∧F.ng (s + F.sgn n) = n∧F.cls (s + F.sgn n)≠1∧F.fin (s + F.sgn n)∧F.vl (s + F.sgn n) = d∧∀ md,sumW F md d = (s + F.sgn n,0):=by
 have hi:=Zdb F
 have hf:=ZbP (F:=F) n h1
 have hl : s + F.sgn n < 2 * F.sg:=by unfold Fm.sgn; split <;> omega
 have hvl : F.vl (s + F.sgn n) = d:=by rw [Zbu hf,hv]
 refine ⟨hl,(Zdc n (by omega)).2,fun q => ?_,hf,hvl,fun md => ?_⟩
 ·have:=(Zjb hl hf).1 q
  rw [hvl] at this; exact hm this
 ·have:=(Zmh F md n h1 h0).1
  rw [hv] at this
  unfold sumW; rw [if_neg hm]; exact this
theorem ZaX (F : Fm) {p : Int × Bool} (hp : SdC p) : bw F p < 2 * F.sg∧F.ng (bw F p) = p.2∧F.fin (bw F p)∧(F.cls (bw F p) = 1↔p.1 = 0)∧F.vl (bw F p) = if p.1 = 0 then ⟨false,0,0⟩ else ⟨p.2,1,0⟩:=by
 unfold bw
 by_cases h : p.1 = 0
 ·simp only [if_pos h]
  obtain ⟨q1,q2,q3,q4⟩:=ZeA F p.2
  exact ⟨q1,q2,Zap.2 (Or.inl q3),by simp [q3,h],q4⟩
 ·simp only [if_neg h]
  obtain ⟨e1,e2,e3⟩:=ZjT F p.2
  obtain ⟨q1,q2,q3,q4,q5,_⟩:=ZhR F p.2 e1 e2 e3 Nat.one_ne_zero
  exact ⟨q1,q2,q4,by simp [q3,h],q5⟩
theorem ZwK (F : Fm) {p : Int × Bool} (hp : SdC p) : F.flip (bw F p) = bw F (sM p):=by
 have hi:=Zdb F
 unfold Fm.flip
 rw [(ZaX F hp).2.1]
 unfold bw sM
 by_cases h : p.1 = 0
 ·rw [if_pos h,if_pos (by simp [h])]
  have:=(Zdc (F:=F) (s:=0) p.2 (by omega)).1
  rw [Nat.zero_add] at this
  rw [this,Nat.zero_add]
 ·rw [if_neg h,if_neg (by simp; omega)]
  obtain ⟨e1,e2,_⟩:=ZjT F p.2
  rw [(Zdc (F:=F) p.2 (by omega)).1]
theorem Ztt (F : Fm) (md : Int) {p r : Int × Bool} (hp : SdC p) (hr : SdC r) : mulW2 F md (bw F p) (bw F r) = (bw F (sT p r),0):=by
 obtain ⟨a1,a2,a3,a4,a5⟩:=ZaX F hp
 obtain ⟨b1,b2,b3,b4,b5⟩:=ZaX F hr
 unfold mulW2
 rw [Znk F md (Zap.1 a3) (Zap.1 b3),a2,b2,a5,b5]
 by_cases h : p.1 = 0∨r.1 = 0
 ·rw [if_pos (by rw [a4,b4]; exact h)]
  unfold bw sT
  rw [if_pos (by rcases h with h | h <;> simp [h])]
 ·rw [if_neg (by rw [a4,b4]; exact h)]
  have h1 : p.1≠0:=fun q => h (Or.inl q)
  have h2 : r.1≠0:=fun q => h (Or.inr q)
  rw [if_neg h1,if_neg h2]
  have e : mulD ⟨p.2,1,0⟩ ⟨r.2,1,0⟩ = ⟨p.2 != r.2,1,0⟩:=Zoi (show 1 * 1 % 2 = 1 from rfl)
  rw [e]
  obtain ⟨e1,e2,e3⟩:=ZjT F (p.2 != r.2)
  rw [(ZhR F _ e1 e2 e3 Nat.one_ne_zero).2.2.2.2.2 md]
  unfold bw sT
  rw [if_neg (by simp [h1,h2])]
theorem ZwJ (F : Fm) (md : Int) {p r : Int × Bool} (hp : SdC p) (hr : SdC r) : (addW F md (bw F p) (bw F r)).1 < 2 * F.sg ∧
  (((sP md p r).1 = 0∧F.cls (addW F md (bw F p) (bw F r)).1 = 1∧(addW F md (bw F p) (bw F r)).1 = F.sgn (sP md p r).2) ∨
   ((sP md p r).1≠0∧F.cls (addW F md (bw F p) (bw F r)).1≠1∧F.ng (addW F md (bw F p) (bw F r)).1 = (sP md p r).2)):=by
 obtain ⟨a1,a2,a3,a4,a5⟩:=ZaX F hp
 obtain ⟨b1,b2,b3,b4,b5⟩:=ZaX F hr
 have hz : ∀ n,F.sgn n < 2 * F.sg∧F.cls (F.sgn n) = 1:=fun n => ⟨(ZeA F n).1,(ZeA F n).2.2.1⟩
 have h1 : ∀ n,F.one + F.sgn n < 2 * F.sg∧F.cls (F.one + F.sgn n)≠1∧F.ng (F.one + F.sgn n) = n:=fun n => by
  obtain ⟨e1,e2,e3⟩:=ZjT F n
  obtain ⟨q1,q2,q3,_⟩:=ZhR F n e1 e2 e3 Nat.one_ne_zero
  exact ⟨q1,q3,q2⟩
 have h2 : ∀ n,F.one + 2 ^ F.fr + F.sgn n < 2 * F.sg∧F.cls (F.one + 2 ^ F.fr + F.sgn n)≠1∧F.ng (F.one + 2 ^ F.fr + F.sgn n) = n:=fun n => by
  obtain ⟨e1,e2,e3⟩:=ZrY F n
  obtain ⟨q1,q2,q3,_⟩:=ZhR F n e1 e2 e3 Nat.one_ne_zero
  exact ⟨q1,q3,q2⟩
 have s1 : ∀ n,sumW F md ⟨n,1,0⟩ = (F.one + F.sgn n,0):=fun n => by
  obtain ⟨e1,e2,e3⟩:=ZjT F n
  exact (ZhR F n e1 e2 e3 Nat.one_ne_zero).2.2.2.2.2 md
 have s2 : ∀ n,sumW F md ⟨n,1,1⟩ = (F.one + 2 ^ F.fr + F.sgn n,0):=fun n => by
  obtain ⟨e1,e2,e3⟩:=ZrY F n
  exact (ZhR F n e1 e2 e3 Nat.one_ne_zero).2.2.2.2.2 md
 have s0 : sumW F md ⟨false,0,0⟩ = (F.sgn (decide (md = 5)),0):=rfl
 have m2 : ∀ n,mkD n 2 0 = ⟨n,1,1⟩:=fun n => by
  have:=ZlO (n:=n) (m:=1) (e:=1) (by decide) 1
  exact this
 have m0 : ∀ n,mkD n 0 0 = ⟨false,0,0⟩:=fun n => ZbQ n 0
 have hw : addW F md (bw F p) (bw F r) = if p.1 = 0∧r.1 = 0∧p.2 = r.2 then (F.sgn p.2,0) else sumW F md (addD (if p.1 = 0 then ⟨false,0,0⟩ else ⟨p.2,1,0⟩) (if r.1 = 0 then ⟨false,0,0⟩ else ⟨r.2,1,0⟩)):=by
  unfold addW
  rw [Ziw F md (Zap.1 a3) (Zap.1 b3),a2,b2,a5,b5]
  simp only [a4,b4]
 rw [hw]
 rcases hp with rfl | rfl | rfl | rfl <;> rcases hr with rfl | rfl | rfl | rfl <;>
  simp [addD,sP,s0,s1,s2,m2,m0,hz,h1,h2]
end Go.Cv
