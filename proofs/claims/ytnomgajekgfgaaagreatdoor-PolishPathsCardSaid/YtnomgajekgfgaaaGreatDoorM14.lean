/-
 A part of the proof of the statements of this seat (texts that the law's own text leans on): no condition.
-/
import Derived.Test.YtnomgajekgfgaaaGreatDoorM13
import Derived.Test.YtnomgajekgfgaaaGreatDoorM6
import Derived.Test.YtnomgajekgfgaaaGreatDoorM11
set_option linter.unusedVariables false
set_option linter.unusedSimpArgs false
namespace Go.Cv
variable {G : Nat→Option (List AV)} {T : Tbl} {g : Nat}
theorem Zdc (a b : Dy) : Nz (mulD a b):=ZpZ _ _ _
theorem ZjE {a b : Dy} {K : Nat} (ha : Bd a K) (hb : Bd b K) : Bd (mulD a b) (4 * K):=by
 obtain ⟨a1,a2,a3⟩:=ha
 obtain ⟨b1,b2,b3⟩:=hb
 have hb : blen (a.m * b.m)≤2 * K:=by
  refine Zaf.2 ?_
  rw [show 2 * K = K + K by omega,Nat.pow_add]
  exact Nat.mul_lt_mul_of_lt_of_lt (Zaf.1 a1) (Zaf.1 b1)
 exact Zpv (by omega) (by omega) (by omega)
theorem Zaw {d : Dy} (h : Nz d) (b : Bd d 131072) : mayD d.n (dl d.m) d.e = true:=by
 obtain ⟨b1,b2,b3⟩:=b
 have hm : mayL (dl d.m) = true:=Zak b1
 simp only [mayD,hm,Bool.true_and]
 by_cases h0 : d.m = 0
 ·rw [h.1 h0,Zai]; rfl
 ·have h1 : ¬ (dl d.m).length = 0:=fun hc => h0 (Zan.1 hc)
  rw [if_neg h1,dg0]
  have h2:=h.2 h0
  simp only [Bool.and_eq_true,decide_eq_true_eq]
  exact ⟨h2,by omega,by omega⟩
theorem ZcJ {d : Dy} : sgnD d = 0↔d.m = 0:=by
 unfold sgnD
 by_cases h : d.m = 0
 ·rw [if_pos h]; exact ⟨fun _ => h,fun _ => rfl⟩
 ·rw [if_neg h]
  constructor
  ·intro hc; split at hc <;> omega
  ·intro hc; exact absurd hc h
theorem ZdP (J : Al G T g) (F : Fm) : run G T 157 [.int .u8 F.u] = some (.int .u64 (F.nan : Int)):=by
 rw [Zab G T J.F.ZdP]
 have h1:=ZhP J F
 have h2:=ZdO J F
 cases F
 ·have h4:=ZeN J .s (n:=false) (x:=255) (w:=4194304) (by decide) (Or.inl (by decide))
  simp only [fldA,Fm.u,Fm.fr,Fm.most,Fm.nan,Fm.inf,Fm.sgn,Fm.sg,Int.cast_ofNat_Int,Nat.reducePow,Nat.reduceMul,Nat.reduceSub,Nat.reduceAdd,Bool.false_eq_true,if_false] at *
  repeat' (first | simp only [seval,exC,ZgJ,h1,h2,h4] | simp (disch:=omega) only [dxB])
 ·have h4:=ZeN J .d (n:=false) (x:=2047) (w:=2251799813685248) (by decide) (Or.inl (by decide))
  simp only [fldA,Fm.u,Fm.fr,Fm.most,Fm.nan,Fm.inf,Fm.sgn,Fm.sg,Int.cast_ofNat_Int,Nat.reducePow,Nat.reduceMul,Nat.reduceSub,Nat.reduceAdd,Bool.false_eq_true,if_false] at *
  repeat' (first | simp only [seval,exC,ZgJ,h1,h2,h4] | simp (disch:=omega) only [dxB])
theorem ZlU (J : Al G T g) (F : Fm) {w : Nat} : run G T 233 [.int .u8 F.u,.int .u64 (w : Int)] = some (.bool (F.ng w)):=by
 rw [Zab G T J.H.ZlU]
 have h1:=ZhQ J F
 have h2 : decide ((F.sg : Int)≤(w : Int)) = F.ng w:=by unfold Fm.ng; congr 1; apply propext; omega
 repeat' (first | simp only [seval,exC,ZkN,h1,h2] | simp (disch:=omega) only [dxB])
theorem Zke (J : Al G T g) (F : Fm) {w : Nat} (hw : w < 2 * F.sg) : run G T 230 [.int .u8 F.u,.int .u64 (w : Int)] = some (.bool (decide (F.cls w = 5))):=by
 rw [Zab G T J.H.Zke]
 have h1:=ZaA J F (ZaP hw)
 repeat' (first | simp only [seval,exC,ZkM,h1] | simp (disch:=omega) only [dxB])
theorem ZlT (J : Al G T g) (F : Fm) {w : Nat} (hw : w < 2 * F.sg) : run G T 231 [.int .u8 F.u,.int .u64 (w : Int)] = some (.bool (decide (F.cls w = 4))):=by
 rw [Zab G T J.H.ZlT]
 have h1:=ZaA J F (ZaP hw)
 repeat' (first | simp only [seval,exC,ZkL,h1] | simp (disch:=omega) only [dxB])
theorem ZmH (J : Al G T g) (F : Fm) {w : Nat} (hw : w < 2 * F.sg) : run G T 232 [.int .u8 F.u,.int .u64 (w : Int)] = some (.bool (decide (F.cls w = 1))):=by
 rw [Zab G T J.H.ZmH]
 have h1:=ZaA J F (ZaP hw)
 repeat' (first | simp only [seval,exC,ZiW,h1] | simp (disch:=omega) only [dxB])
theorem Zlf (J : Al G T g) (F : Fm) {md : Int} : run G T 234 [.int .u8 F.u,.int .u8 md] = some (.int .u64 ((F.sgn (decide (md = 5)) : Nat) : Int)):=by
 rw [Zab G T J.H.Zlf]
 have h1:=Zbe J F (n:=decide (md = 5)) (w:=0)
 rw [Nat.zero_mod,Nat.zero_add,cast0] at h1
 repeat' (first | simp only [seval,exC,Zfk,h1] | simp (disch:=omega) only [dxB])
theorem ZFx (J : Al G T g) (F : Fm) {md : Int} (hm : 1≤md∧md≤5) {z : Bool} {d : Dy} (hz : Nz d) (hb : Bd d 131072) :
  run G T 16 [DyA z d] = some (.int .i64 (sgnD d)) ∧
  ((sgnD d = 0∧run G T 234 [.int .u8 F.u,.int .u8 md] = some (.int .u64 ((sumW F md d).1 : Int))∧(sumW F md d).2 = 0) ∨
   (¬ sgnD d = 0∧run G T 12 [.int .u8 F.u,.int .u8 md,DyA z d] = some (.tup [.int .u64 ((sumW F md d).1 : Int),.int .u8 ((sumW F md d).2 : Int)]))):=by
 refine ⟨Zbi J,?_⟩
 by_cases h0 : d.m = 0
 ·left
  have h1:=Zlf J F (md:=md)
  unfold sumW
  rw [if_pos h0]
  exact ⟨ZcJ.2 h0,h1,rfl⟩
 ·right
  have h1:=Zdw J F hm (z:=z) hz (hb.mono (by decide))
  unfold sumW
  rw [if_neg h0]
  exact ⟨fun h => h0 (ZcJ.1 h),h1⟩
theorem Zxu (F : Fm) (md : Int) {a b : Nat} (ha : a < 2 * F.sg) (hb : b < 2 * F.sg) :
  (F.cls a = 5∧addW F md a b = (F.nan,0))∨(F.cls a≠5∧F.cls b = 5∧addW F md a b = (F.nan,0)) ∨
  (F.cls a = 4∧F.cls b = 4∧a = b∧addW F md a b = (a,0))∨(F.cls a = 4∧F.cls b = 4∧a≠b∧addW F md a b = (F.nan,1)) ∨
  (F.cls a = 4∧F.cls b≠4∧F.cls b≠5∧addW F md a b = (a,0))∨(F.cls a≠4∧F.cls a≠5∧F.cls b = 4∧addW F md a b = (b,0)) ∨
  (F.fin a∧F.fin b∧F.cls a = 1∧a = b∧addW F md a b = (a,0))∨(F.fin a∧F.fin b∧(F.cls a≠1∨a≠b)∧addW F md a b = sumW F md (addD (F.vl a) (F.vl b))):=by
 unfold addW addP
 have ra:=ZbS F a
 have rb:=ZbS F b
 by_cases a5 : F.cls a = 5
 ·left; exact ⟨a5,if_pos (Or.inl a5)⟩
 ·right
  by_cases b5 : F.cls b = 5
  ·left; exact ⟨a5,b5,if_pos (Or.inr b5)⟩
  ·right
   rw [if_neg (by omega)]
   by_cases a4 : F.cls a = 4
   ·have ea:=Zqg ha a4
    by_cases b4 : F.cls b = 4
    ·have eb:=Zqg hb b4
     by_cases hn : F.ng a = F.ng b
     ·left
      refine ⟨a4,b4,by rw [ea,eb,hn],?_⟩
      rw [if_neg (fun h => h.2.2 hn),if_pos a4,← ea]
     ·right; left
      refine ⟨a4,b4,?_,if_pos ⟨a4,b4,hn⟩⟩
      intro hc; exact hn (by rw [hc])
    ·right; right; left
     refine ⟨a4,b4,b5,?_⟩
     rw [if_neg (fun h => b4 h.2.1),if_pos a4,← ea]
   ·by_cases b4 : F.cls b = 4
    ·right; right; right; left
     refine ⟨a4,a5,b4,?_⟩
     rw [if_neg (fun h => a4 h.1),if_neg a4,if_pos b4,← Zqg hb b4]
    ·right; right; right; right
     have fa : F.fin a:=Zbu.2 (by omega)
     have fb : F.fin b:=Zbu.2 (by omega)
     rw [if_neg (fun h => a4 h.1),if_neg a4,if_neg b4]
     by_cases h1 : F.cls a = 1∧a = b
     ·left
      refine ⟨fa,fb,h1.1,h1.2,?_⟩
      rw [if_pos ⟨h1.1,by rw [← h1.2]; exact h1.1,by rw [h1.2]⟩,← (Zms ha h1.1).1]
     ·right
      refine ⟨fa,fb,?_,?_⟩
      ·by_cases q : F.cls a = 1
       ·exact Or.inr (fun hc => h1 ⟨q,hc⟩)
       ·exact Or.inl q
      ·rw [if_neg]
       rintro ⟨q1,q2,q3⟩
       exact h1 ⟨q1,by rw [(Zms ha q1).1,(Zms hb q2).1,q3]⟩
theorem Zdx {F : Fm} {w : Nat} (h : F.fin w) : F.vl w = F.val w:=if_pos h
theorem Zeg (J : Al G T g) (F : Fm) {md : Int} (hm : 1≤md∧md≤5) {a b : Nat} (ha : a < 2 * F.sg) (hb : b < 2 * F.sg) :
  run G T 219 [.int .u8 F.u,.int .u8 md,.int .u64 (a : Int),.int .u64 (b : Int)] = some (.tup [.int .u64 ((addW F md a b).1 : Int),.int .u8 ((addW F md a b).2 : Int)]):=by
 rw [Zab G T J.H.Zeg]
 have na:=Zke J F ha
 have nb:=Zke J F hb
 have ia:=ZlT J F ha
 have ib:=ZlT J F hb
 have za:=ZmH J F ha
 have nn:=ZdP J F
 have ra:=ZbS F a
 have rb:=ZbS F b
 rcases Zxu F md ha hb with ⟨h1,W⟩ | ⟨h1,h2,W⟩ | ⟨h1,h2,h3,W⟩ | ⟨h1,h2,h3,W⟩ | ⟨h1,h2,h3,W⟩ | ⟨h1,h2,h3,W⟩ | ⟨h1,h2,h3,h4,W⟩ | ⟨h1,h2,h3,W⟩
 ·rw [W]
  rw [decide_eq_true h1] at na
  repeat' (first | simp only [seval,exC,ZaM,na,nn] | simp (disch:=omega) only [dxB])
  all_goals rfl
 ·rw [W]
  rw [decide_eq_false h1] at na
  rw [decide_eq_true h2] at nb
  repeat' (first | simp only [seval,exC,ZaM,na,nb,nn] | simp (disch:=omega) only [dxB])
  all_goals rfl
 ·rw [W]
  rw [decide_eq_false (by omega)] at na nb
  rw [decide_eq_true h1] at ia
  rw [decide_eq_true h2] at ib
  subst h3
  repeat' (first | simp only [seval,exC,ZaM,na,nb,ia,ib] | simp (disch:=omega) only [dxB])
  all_goals rfl
 ·rw [W]
  rw [decide_eq_false (by omega)] at na nb
  rw [decide_eq_true h1] at ia
  rw [decide_eq_true h2] at ib
  have hab : ¬ (a : Int) = (b : Int):=by omega
  repeat' (first | simp only [seval,exC,ZaM,na,nb,ia,ib,hab,nn] | simp (disch:=omega) only [dxB])
  all_goals rfl
 ·rw [W]
  rw [decide_eq_false (by omega)] at na nb
  rw [decide_eq_true h1] at ia
  rw [decide_eq_false h2] at ib
  repeat' (first | simp only [seval,exC,ZaM,na,nb,ia,ib] | simp (disch:=omega) only [dxB])
  all_goals rfl
 ·rw [W]
  rw [decide_eq_false (by omega)] at na nb
  rw [decide_eq_false h1] at ia
  rw [decide_eq_true h3] at ib
  repeat' (first | simp only [seval,exC,ZaM,na,nb,ia,ib] | simp (disch:=omega) only [dxB])
  all_goals rfl
 ·rw [W]
  have q1:=Zbu.1 h1
  have q2:=Zbu.1 h2
  rw [decide_eq_false (by omega)] at na nb ia ib
  rw [decide_eq_true h3] at za
  subst h4
  repeat' (first | simp only [seval,exC,ZaM,na,nb,ia,ib,za] | simp (disch:=omega) only [dxB])
  all_goals rfl
 ·rw [W]
  have q1:=Zbu.1 h1
  have q2:=Zbu.1 h2
  rw [decide_eq_false (by omega)] at na nb ia ib
  obtain ⟨z1,v1⟩:=ZaX J F (ZaP ha) h1
  obtain ⟨z2,v2⟩:=ZaX J F (ZaP hb) h2
  rw [← Zdx h1] at v1
  rw [← Zdx h2] at v2
  have b1:=ZbO F a
  have b2:=ZbO F b
  obtain ⟨z3,s1⟩:=Zef J (z:=z1) (y:=z2) (b1.mono (by decide)) (b2.mono (by decide))
  obtain ⟨g1,g2⟩:=ZFx J F hm (z:=z3) (ZnE (Zes F a) (Zes F b)) ((ZhT b1 b2).mono (by decide))
  generalize sumW F md (addD (F.vl a) (F.vl b)) = S at *
  generalize addD (F.vl a) (F.vl b) = s at *
  generalize F.vl a = va at *
  generalize F.vl b = vb at *
  have hza : (F.cls a = 1∧¬ (a : Int) = (b : Int))∨¬ F.cls a = 1:=by omega
  clear b1 b2 W ra rb q1 q2 h3 nn
  simp only [DyA,A3] at *
  rcases hza with ⟨k1,k2⟩ | k1
  ·rw [decide_eq_true k1] at za
   rcases g2 with ⟨g3,g4,g5⟩ | ⟨g3,g4⟩
   ·rw [g5,cast0]
    repeat' (first | simp only [seval,exC,ZaM,na,nb,ia,ib,za,k2,v1,v2,s1,g1,g3,g4] | simp (disch:=omega) only [dxB])
    all_goals try rfl
   ·repeat' (first | simp only [seval,exC,ZaM,na,nb,ia,ib,za,k2,v1,v2,s1,g1,g3,g4] | simp (disch:=omega) only [dxB])
    all_goals try rfl
  ·rw [decide_eq_false k1] at za
   rcases g2 with ⟨g3,g4,g5⟩ | ⟨g3,g4⟩
   ·rw [g5,cast0]
    repeat' (first | simp only [seval,exC,ZaM,na,nb,ia,ib,za,v1,v2,s1,g1,g3,g4] | simp (disch:=omega) only [dxB])
    all_goals try rfl
   ·repeat' (first | simp only [seval,exC,ZaM,na,nb,ia,ib,za,v1,v2,s1,g1,g3,g4] | simp (disch:=omega) only [dxB])
    all_goals try rfl
theorem ZlS (J : Al G T g) (F : Fm) {md : Int} (hm : 1≤md∧md≤5) {a b : Nat} (ha : a < 2 * F.sg) (hb : b < 2 * F.sg) :
  run G T 220 [.int .u8 F.u,.int .u8 md,.int .u64 (a : Int),.int .u64 (b : Int)] = some (.tup [.int .u64 ((subW F md a b).1 : Int),.int .u8 ((subW F md a b).2 : Int)]):=by
 rw [Zab G T J.H.ZlS]
 have nb:=Zke J F hb
 have gb:=ZlU J F (w:=b)
 obtain ⟨f1,f2,f3,f4⟩:=ZoL hb
 have sd:=Zbe J F (n:=!F.ng b) (w:=b)
 rw [show b % F.sg + F.sgn (!F.ng b) = F.flip b from rfl] at sd
 by_cases h1 : F.cls b = 5
 ·rw [decide_eq_true h1] at nb
  have ad:=Zeg J F hm ha hb
  have W : subW F md a b = addW F md a b:=by
   unfold subW addW addP; rw [if_pos (Or.inr h1),if_pos (Or.inr h1)]
  rw [W]
  repeat' (first | simp only [seval,exC,Zii,nb,ad] | simp (disch:=omega) only [dxB])
  all_goals try rfl
 ·rw [decide_eq_false h1] at nb
  have ad:=Zeg J F hm ha f1
  rw [ZuR F md hb]
  generalize addW F md a (F.flip b) = W at *
  generalize F.flip b = c at *
  cases hn : F.ng b <;> (
   rw [hn] at gb sd
   simp only [Bool.not_true,Bool.not_false] at sd
   repeat' (first | simp only [seval,exC,Zii,nb,gb,sd,ad] | simp (disch:=omega) only [dxB])
   all_goals try rfl)
structure KindR (G : Nat→Option (List AV)) (T : Tbl) (F : Fm) (w : Nat) (n i z : Bool) : Prop where
 nan : run G T 230 [.int .u8 F.u,.int .u64 (w : Int)] = some (.bool n)
 inf : run G T 231 [.int .u8 F.u,.int .u64 (w : Int)] = some (.bool i)
 zer : run G T 232 [.int .u8 F.u,.int .u64 (w : Int)] = some (.bool z)
theorem ZrV (J : Al G T g) (F : Fm) {w : Nat} (hw : w < 2 * F.sg) :
  (F.cls w = 5∧KindR G T F w true false false)∨(F.cls w = 4∧KindR G T F w false true false)∨(F.cls w = 1∧KindR G T F w false false true)∨((F.fin w∧F.cls w≠1∧F.cls w≠4∧F.cls w≠5)∧KindR G T F w false false false):=by
 have h1:=Zke J F hw
 have h2:=ZlT J F hw
 have h3:=ZmH J F hw
 have r:=ZbS F w
 by_cases a : F.cls w = 5
 ·left; rw [decide_eq_true a] at h1; rw [decide_eq_false (by omega)] at h2 h3; exact ⟨a,h1,h2,h3⟩
 ·right
  by_cases b : F.cls w = 4
  ·left; rw [decide_eq_true b] at h2; rw [decide_eq_false (by omega)] at h1 h3; exact ⟨b,h1,h2,h3⟩
  ·right
   by_cases c : F.cls w = 1
   ·left; rw [decide_eq_true c] at h3; rw [decide_eq_false (by omega)] at h1 h2; exact ⟨c,h1,h2,h3⟩
   ·right; rw [decide_eq_false (by omega)] at h1 h2 h3; exact ⟨⟨Zbu.2 (by omega),c,b,a⟩,h1,h2,h3⟩
set_option maxHeartbeats 16000000 in
theorem ZfJ (J : Al G T g) (F : Fm) {md : Int} (hm : 1≤md∧md≤5) {a b : Nat} (ha : a < 2 * F.sg) (hb : b < 2 * F.sg) :
  run G T 222 [.int .u8 F.u,.int .u8 md,.int .u64 (a : Int),.int .u64 (b : Int)] = some (.tup [.int .u64 ((mulW2 F md a b).1 : Int),.int .u8 ((mulW2 F md a b).2 : Int)]):=by
 rw [Zab G T J.H.ZfJ]
 have nn:=ZdP J F
 have ga:=ZlU J F (w:=a)
 have gb:=ZlU J F (w:=b)
 have inf:=ZgU J F (n:=F.ng a != F.ng b)
 have sg:=Zbe J F (n:=F.ng a != F.ng b) (w:=0)
 rw [Nat.zero_mod,Nat.zero_add,cast0] at sg
 unfold mulW2 mulP
 rcases ZrV J F ha with ⟨ka,na,ia,za⟩ | ⟨ka,na,ia,za⟩ | ⟨ka,na,ia,za⟩ | ⟨⟨fa,ka,ka2,ka3⟩,na,ia,za⟩
 ·rw [if_pos (Or.inl ka)]
  repeat' (first | simp only [seval,exC,ZcA,na,nn] | simp (disch:=omega) only [dxB])
  all_goals rfl
 all_goals rcases ZrV J F hb with ⟨kb,nb,ib,zb⟩ | ⟨kb,nb,ib,zb⟩ | ⟨kb,nb,ib,zb⟩ | ⟨⟨fb,kb,kb2,kb3⟩,nb,ib,zb⟩
 all_goals try (
  rw [if_pos (Or.inr kb)]
  repeat' (first | simp only [seval,exC,ZcA,na,nb,nn] | simp (disch:=omega) only [dxB])
  all_goals rfl
  done)
 all_goals rw [if_neg (by omega)]
 all_goals try (
  rw [if_pos (by omega)]
  repeat' (first | simp only [seval,exC,ZcA,na,nb,ia,za,ib,zb,nn] | simp (disch:=omega) only [dxB])
  all_goals rfl
  done)
 all_goals try rw [if_neg (show ¬ ((F.cls a = 4∨F.cls b = 4)∧(F.cls a = 1∨F.cls b = 1)) by omega)]
 all_goals try (
  rw [if_pos (show F.cls a = 4∨F.cls b = 4 by omega)]
  generalize F.ng a = x at *
  generalize F.ng b = y at *
  cases x <;> cases y <;> (
   simp only [bne_self_eq_false,Bool.false_bne,Bool.true_bne,Bool.not_true,Bool.not_false,Bool.bne_true,Bool.bne_false] at inf ⊢
   repeat' (first | simp only [seval,exC,ZcA,na,nb,ia,za,ib,zb,ga,gb,inf] | simp (disch:=omega) only [dxB])
   all_goals rfl)
  done)
 all_goals try rw [if_neg (show ¬ (F.cls a = 4∨F.cls b = 4) by omega)]
 all_goals try (
  rw [if_pos (show F.cls a = 1∨F.cls b = 1 by omega)]
  generalize F.ng a = x at *
  generalize F.ng b = y at *
  cases x <;> cases y <;> (
   simp only [bne_self_eq_false,Bool.false_bne,Bool.true_bne,Bool.not_true,Bool.not_false,Bool.bne_true,Bool.bne_false] at sg ⊢
   repeat' (first | simp only [seval,exC,ZcA,na,nb,ia,za,ib,zb,ga,gb,sg] | simp (disch:=omega) only [dxB])
   all_goals rfl)
  done)
 rw [if_neg (show ¬ (F.cls a = 1∨F.cls b = 1) by omega)]
 obtain ⟨z1,v1⟩:=ZaX J F (ZaP ha) fa
 obtain ⟨z2,v2⟩:=ZaX J F (ZaP hb) fb
 have m1:=ZvP ha ka fa
 have m2:=ZvP hb kb fb
 rw [← Zdx fa] at v1 m1
 rw [← Zdx fb] at v2 m2
 have b1:=ZbO F a
 have b2:=ZbO F b
 obtain ⟨p1,p2,p3⟩:=b1
 obtain ⟨q1,q2,q3⟩:=b2
 have hl1:=Zaa (F.vl a).m
 have hl2:=Zaa (F.vl b).m
 obtain ⟨z3,s1⟩:=Zkc J (z:=z1) (y:=z2) (a:=F.vl a) (b:=F.vl b) (by omega) (by omega) (by omega) (by omega)
 have r1:=Zdw J F hm (z:=z3) (Zdc (F.vl a) (F.vl b)) ((ZjE (ZbO F a) (ZbO F b)).mono (by decide))
 have hne : (F.vl a).m * (F.vl b).m≠0:=by
  intro hc
  rcases Nat.mul_eq_zero.1 hc with h | h
  ·exact m1 h
  ·exact m2 h
 have hm0 : (mulD (F.vl a) (F.vl b)).m≠0:=ZlH hne _
 unfold sumW
 rw [if_neg hm0]
 rw [show mkD ((F.vl a).n != (F.vl b).n) ((F.vl a).m * (F.vl b).m) ((F.vl a).e + (F.vl b).e) = mulD (F.vl a) (F.vl b) from rfl] at s1
 generalize rndW F md (mulD (F.vl a) (F.vl b)) = S at *
 generalize mulD (F.vl a) (F.vl b) = s at *
 clear p1 p2 p3 q1 q2 q3 hl1 hl2 m1 m2 hne hm0
 generalize F.vl a = va at *
 generalize F.vl b = vb at *
 simp only [DyA,A3] at *
 repeat' (first | simp only [seval,exC,ZcA,na,nb,ia,za,ib,zb,ga,gb,v1,v2,s1,r1] | simp (disch:=omega) only [dxB])
 all_goals try rfl
def apB (bs : List Blk) (f : List Nat) (b n : Nat) (o : Option Blk) (w : Option (List AV)) : Option (AV × Heap) :=
 match w with
 | some nw => match o with
  | some k => if k.dead = false∧f.contains b = false∧n * 5≤k.cs.length∧(n + 1) * 48≤boundApp then some (.own bs.length 0 (n + 1) 5,⟨bs.set b ⟨k.cs,true⟩ ++ [⟨k.cs.take (n * 5) ++ nw,false⟩],f⟩) else none
  | none => none
 | none => none
theorem ap_x (bs : List Blk) (f : List Nat) (b n c : Nat) : appV ⟨bs,f⟩ 5 48 (.own b 0 n 5) (.own c 0 1 5) = apB bs f b n (bs[b]?) (subB (bs[c]?) 0 5):=by
 have h1:=Znr bs f c 0 5
 simp only [appV,sliceCells,if_true,Nat.one_mul,h1]
 cases subB (bs[c]?) 0 5 with
 | none => rfl
 | some nw =>
  simp only [Option.map_some,apB]
  cases bs[b]? with
  | none => rfl
  | some k => simp
theorem ap_0 (bs : List Blk) (b : Nat) (cs nw : List AV) : apB bs [] b 0 (some ⟨cs,false⟩) (some nw) = some (.own bs.length 0 1 5,⟨bs.set b ⟨cs,true⟩ ++ [⟨nw,false⟩],[]⟩):=by
 simp [apB,boundApp]
theorem ap_1 (bs : List Blk) (b : Nat) (x1 x2 x3 x4 x5 : AV) (nw : List AV) : apB bs [] b 1 (some ⟨[x1,x2,x3,x4,x5],false⟩) (some nw) = some (.own bs.length 0 2 5,⟨bs.set b ⟨[x1,x2,x3,x4,x5],true⟩ ++ [⟨x1 :: x2 :: x3 :: x4 :: x5 :: nw,false⟩],[]⟩):=by
 simp [apB,boundApp]
theorem Znb (F : CallF) (d : Option Nat) (os : List IOper) (e : Env) (h : Heap) (n : Nat) (zero : List AV) (ps : List (Nat × Nat × IOpd)) : evOps G F (⟨d,.bslice n 5 zero ps,none⟩ :: os) e h =
  kBs G F (fillA (repA n zero) (ps.map fun (o,n,x) => (o,n,opd e x))) (.own h.b.length 0 n 5) d os e h:=Zhb G F d os e h n 5 zero ps
theorem ZFU (e : Env) (h : Heap) : evL G T Zjy e h = kS G T (evL G T Zjx (keepE [0,10,31,32,33] e) h) Zjy:=Zae G T rfl e h
theorem iw20 (x y : AV) (k : IntKind) : iaddrV 1 (.imm 2 [x,y]) (.int k 0) = some (.iptr [x,y] 0):=rfl
theorem iw21 (x y : AV) (k : IntKind) : iaddrV 1 (.imm 2 [x,y]) (.int k 1) = some (.iptr [x,y] 1):=rfl
theorem rp_0 (h : Mem) (x : AV) (l : List AV) : rdAt G h 1 (.iptr (x :: l) 0) = some [x]:=by simp [rdAt]
theorem rp_1 (h : Mem) (x y : AV) (l : List AV) : rdAt G h 1 (.iptr (x :: y :: l) 1) = some [y]:=by simp [rdAt]
theorem rp_2 (h : Mem) (x y z : AV) (l : List AV) : rdAt G h 1 (.iptr (x :: y :: z :: l) 2) = some [z]:=by simp [rdAt]
theorem ZzN (z : List AV) : repA 3 z = z ++ (z ++ z):=by simp [repA]
theorem wr_1 : IntKind.i64.wrap (0 + 1) = 1:=rfl
theorem wr_2 : IntKind.i64.wrap (1 + 1) = 2:=rfl
theorem wr_3 : IntKind.i64.wrap (2 + 1) = 3:=rfl
theorem wr1 : IntKind.i64.wrap 1 = 1:=rfl
theorem wr2 : IntKind.i64.wrap 2 = 2:=rfl
theorem wr3 : IntKind.i64.wrap 3 = 3:=rfl
def ptC (F : Fm) (w : Nat) (z : Bool) : List AV:=[.int .u8 (F.cls w),.bool (F.ng w),.bool (F.vl w).n,D z (dl (F.vl w).m),.int .i64 (F.vl w).e]
set_option maxHeartbeats 8000000 in
theorem Zpg (J : Al G T g) (F : Fm) {md : Int} (hm : 1≤md∧md≤5) {a : Nat} {b : Nat} (ha : a < 2 * F.sg) (hb : b < 2 * F.sg) :
  ∃ z1 z2,run G T 176 [.int .u8 F.u,.int .u8 md,.imm 2 [.int .u64 (a : Int),.int .u64 (b : Int)]] = some (.tup [.imm 2 (ptC F a z1 ++ ptC F b z2),.int .i64 0]):=by
 have o1:=ZeO J F hm (neg:=false)
 have s1:=Zgc J F ha
 have c1:=Zby J F ha
 obtain ⟨z1,k1,v1⟩:=ZcR J F ha
 have s2:=Zgc J F hb
 have c2:=Zby J F hb
 obtain ⟨z2,k2,v2⟩:=ZcR J F hb
 refine ⟨z1,z2,?_⟩
 rw [Zab G T J.U.soft_open]
 unfold ptC
 generalize F.cls a = ca' at *
 generalize F.ng a = na' at *
 generalize F.ex a = xa' at *
 generalize F.fc a = ya' at *
 generalize F.vl a = va' at *
 generalize F.cls b = cb' at *
 generalize F.ng b = nb' at *
 generalize F.ex b = xb' at *
 generalize F.fc b = yb' at *
 generalize F.vl b = vb' at *
 simp only [fldA,DyA,A3,List.cons_append,List.nil_append] at *
 repeat' (first | simp only [seval,exC,ZkT,Znb,o1,s1,c1,v1,s2,c2,v2,ZFU,Zjx,iw20,iw21,rp_0,rp_1,ap_0,ap_1,wr_1,wr1,wr_2,wr2,ZbI,ap_x,List.set_cons_zero,List.set_cons_succ,List.cons_append,List.nil_append ] | simp (disch:=omega) only [dxB,Zzl])
end Go.Cv
namespace Go.Cv
variable {G : Nat→Option (List AV)} {T : Tbl} {g : Nat}
theorem Zvm (e : Env) (h : Heap) : evL G T ZkS e h = kS G T (evL G T Zfw (keepE [0,7,8,9] e) h) ZkS:=Zae G T rfl e h
section
variable (a1 a2 a3 a4 a5 b1 b2 b3 b4 b5 c1 c2 c3 c4 c5 : AV) (k : IntKind)
theorem Zry : iaddrV 5 (.imm 2 [a1,a2,a3,a4,a5,b1,b2,b3,b4,b5]) (.int k 0) = some (.iptr [a1,a2,a3,a4,a5,b1,b2,b3,b4,b5] 0):=rfl
theorem Zrz : iaddrV 5 (.imm 2 [a1,a2,a3,a4,a5,b1,b2,b3,b4,b5]) (.int k 1) = some (.iptr [a1,a2,a3,a4,a5,b1,b2,b3,b4,b5] 5):=rfl
theorem r5_0 (h : Mem) (l : List AV) : rdAt G h 5 (.iptr (a1 :: a2 :: a3 :: a4 :: a5 :: l) 0) = some [a1,a2,a3,a4,a5]:=by simp [rdAt]
theorem r5_5 (h : Mem) (l : List AV) : rdAt G h 5 (.iptr (a1 :: a2 :: a3 :: a4 :: a5 :: b1 :: b2 :: b3 :: b4 :: b5 :: l) 5) = some [b1,b2,b3,b4,b5]:=by simp [rdAt]
end
theorem ZuN (J : Al G T g) {k c c' : Int} {n s n' s' z z' : Bool} {l l' : List Nat} {e e' : Int} :
  run G T 178 [.int .u8 k,.imm 2 [.int .u8 c,.bool n,.bool s,D z l,.int .i64 e,.int .u8 c',.bool n',.bool s',D z' l',.int .i64 e']] = some (.bool (decide (c = k∨c' = k))):=by
 rw [Zab G T J.U.soft_has]
 by_cases h1 : c = k
 ·rw [decide_eq_true (Or.inl h1)]
  repeat' (first | simp only [seval,exC,ZhL,Zvm,Zfw,Zry,Zrz,r5_0,r5_5,wr_1,wr1,wr_2,wr2,h1] | simp (disch:=omega) only [dxB])
 ·by_cases h2 : c' = k
  ·rw [decide_eq_true (Or.inr h2)]
   repeat' (first | simp only [seval,exC,ZhL,Zvm,Zfw,Zry,Zrz,r5_0,r5_5,wr_1,wr1,wr_2,wr2,h1,h2] | simp (disch:=omega) only [dxB])
  ·rw [decide_eq_false (by omega)]
   repeat' (first | simp only [seval,exC,ZhL,Zvm,Zfw,Zry,Zrz,r5_0,r5_5,wr_1,wr1,wr_2,wr2,h1,h2] | simp (disch:=omega) only [dxB])
def deskA (F : Fm) (md : Int) : AV:=.agg [.int .u8 F.u,.int .u8 md]
def ptA (c : Int) (n z : Bool) (d : Dy) : AV:=.agg [.int .u8 c,.bool n,.bool d.n,D z (dl d.m),.int .i64 d.e]
theorem ZtL (J : Al G T g) (F : Fm) {md x : Int} : run G T 179 [deskA F md,.int .u8 x] = some (.tup [.int .u64 (F.nan : Int),.int .u8 x,.int .i64 0]):=by
 rw [Zab G T J.U.soft_desk_none]
 have h1:=Zhc J F
 simp only [deskA] at *
 repeat' (first | simp only [seval,exC,Zel,h1] | simp (disch:=omega) only [dxB])
theorem Zwi (J : Al G T g) (F : Fm) {md x : Int} {n : Bool} : run G T 180 [deskA F md,.bool n,.int .u8 x] = some (.tup [.int .u64 ((F.inf n : Nat) : Int),.int .u8 x,.int .i64 0]):=by
 rw [Zab G T J.U.soft_desk_inf]
 have h1:=Zjp J F (n:=n)
 simp only [deskA] at *
 cases n <;> repeat' (first | simp only [seval,exC,Zfv,h1] | simp (disch:=omega) only [dxB])
theorem Zqk (J : Al G T g) (F : Fm) {md : Int} {n : Bool} : run G T 181 [deskA F md,.bool n] = some (.tup [.int .u64 ((F.sgn n : Nat) : Int),.int .u8 0,.int .i64 0]):=by
 rw [Zab G T J.U.soft_desk_zero]
 have h1:=Zmg J F (n:=n)
 simp only [deskA] at *
 cases n <;> repeat' (first | simp only [seval,exC,Zem,h1] | simp (disch:=omega) only [dxB])
theorem Zwj (J : Al G T g) (F : Fm) {md : Int} (hm : 1≤md∧md≤5) {z : Bool} {d : Dy} (hz : Nz d) (hb : Bd d 131072) :
  run G T 183 [deskA F md,DyA z d] = some (.tup [.int .u64 ((sumW F md d).1 : Int),.int .u8 ((sumW F md d).2 : Int),.int .i64 0]):=by
 rw [Zab G T J.U.soft_desk_sum]
 have hmd:=Zaw hz hb
 have s1:=Zcn J (n:=d.n) (z:=z) (Zao d.m) (e:=d.e)
 rw [ZfK hmd] at s1
 unfold sumW
 by_cases h0 : d.m = 0
 ·rw [if_pos h0] at s1 ⊢
  have h1:=Zqk J F (md:=md) (n:=decide (md = 5))
  simp only [deskA,DyA,A3] at *
  repeat' (first | simp only [seval,exC,Zdu,s1,h1] | simp (disch:=omega) only [dxB])
  all_goals try rfl
 ·rw [if_neg h0] at s1 ⊢
  have h1:=Ziw J F hm (z:=z) (d:=d) hmd
  have c1 : ¬ (if d.n = true then (-1 : Int) else 1) = 0:=by split <;> decide
  generalize (if d.n = true then (-1 : Int) else 1) = sg at *
  generalize rndW F md d = S at *
  simp only [deskA,DyA,A3] at *
  repeat' (first | simp only [seval,exC,Zdu,s1,c1,h1] | simp (disch:=omega) only [dxB])
  all_goals try rfl
set_option maxHeartbeats 8000000 in
theorem Zwh (J : Al G T g) (F : Fm) {md : Int} (hm : 1≤md∧md≤5) {c c' : Int} {n n' z z' : Bool} {d d' : Dy}
  (hz : Nz d) (hz' : Nz d') (hb : Bd d 16384) (hb' : Bd d' 16384) :
  run G T 177 [deskA F md,ptA c n z d,ptA c' n' z' d'] = some (.tup [.int .u64 ((addP F md c n d c' n' d').1 : Int),.int .u8 ((addP F md c n d c' n' d').2 : Int),.int .i64 0]):=by
 rw [Zab G T J.U.soft_desk_add]
 have h5:=ZuN J (k:=5) (c:=c) (c':=c') (n:=n) (s:=d.n) (n':=n') (s':=d'.n) (z:=z) (z':=z') (l:=dl d.m) (l':=dl d'.m) (e:=d.e) (e':=d'.e)
 have nn:=fun x => ZtL J F (md:=md) (x:=x)
 have inf:=fun m => Zwi J F (md:=md) (x:=0) (n:=m)
 have ze:=fun m => Zqk J F (md:=md) (n:=m)
 unfold addP
 by_cases a5 : c = 5∨c' = 5
 ·rw [decide_eq_true a5] at h5
  rw [if_pos a5]
  simp only [deskA,ptA] at *
  repeat' (first | simp only [seval,exC,Zau,Znb,h5,nn] | simp (disch:=omega) only [dxB])
  all_goals try rfl
 ·rw [decide_eq_false a5] at h5
  rw [if_neg a5]
  by_cases a4 : c = 4
  ·by_cases b4 : c' = 4
   ·by_cases hn : n = n'
    ·rw [if_neg (show ¬ (c = 4∧c' = 4∧n≠n') from fun h => h.2.2 hn),if_pos a4]
     have i1:=inf n'
     subst a4 b4 hn
     simp only [deskA,ptA] at *
     cases n <;> (
      repeat' (first | simp only [seval,exC,Zau,Znb,h5,i1] | simp (disch:=omega) only [dxB])
      all_goals try rfl)
    ·rw [if_pos (show c = 4∧c' = 4∧n≠n' from ⟨a4,b4,hn⟩)]
     subst a4 b4
     simp only [deskA,ptA] at *
     cases n <;> cases n' <;> first | exact absurd rfl hn | (
      repeat' (first | simp only [seval,exC,Zau,Znb,h5,nn] | simp (disch:=omega) only [dxB])
      all_goals try rfl)
   ·rw [if_neg (show ¬ (c = 4∧c' = 4∧n≠n') by omega),if_pos a4]
    have i1:=inf n
    subst a4
    simp only [deskA,ptA] at *
    cases n <;> (
     repeat' (first | simp only [seval,exC,Zau,Znb,h5,b4,i1] | simp (disch:=omega) only [dxB])
     all_goals try rfl)
  ·rw [if_neg (show ¬ (c = 4∧c' = 4∧n≠n') by omega),if_neg a4]
   by_cases b4 : c' = 4
   ·rw [if_pos b4]
    have i1:=inf n'
    subst b4
    simp only [deskA,ptA] at *
    cases n' <;> (
     repeat' (first | simp only [seval,exC,Zau,Znb,h5,a4,i1] | simp (disch:=omega) only [dxB])
     all_goals try rfl)
   ·rw [if_neg b4]
    by_cases h1 : c = 1∧c' = 1∧n = n'
    ·rw [if_pos h1]
     have i1:=ze n
     obtain ⟨k1,k2,k3⟩:=h1
     subst k1 k2 k3
     simp only [deskA,ptA] at *
     cases n <;> (
      repeat' (first | simp only [seval,exC,Zau,Znb,h5,i1] | simp (disch:=omega) only [dxB])
      all_goals try rfl)
    ·rw [if_neg h1]
     obtain ⟨z3,s1⟩:=Zmt J (z:=z) (y:=z') hb hb' (Zaw hz (hb.mono (by decide))) (Zaw hz' (hb'.mono (by decide)))
     have s2:=Zwj J F hm (z:=z3) (ZnE hz hz') ((ZhT hb hb').mono (by decide))
     generalize sumW F md (addD d d') = S at *
     generalize addD d d' = s at *
     have hk : ¬ c = 1∨(c = 1∧¬ c' = 1)∨(c = 1∧c' = 1∧n≠n'):=by
      by_cases q1 : c = 1
      ·by_cases q2 : c' = 1
       ·right; right; exact ⟨q1,q2,fun h => h1 ⟨q1,q2,h⟩⟩
       ·right; left; exact ⟨q1,q2⟩
      ·left; exact q1
     clear h1 hb hb' hz hz' inf ze nn
     simp only [deskA,ptA,DyA,A3] at *
     rcases hk with k1 | ⟨k1,k2⟩ | ⟨k1,k2,k3⟩
     ·repeat' (first | simp only [seval,exC,Zau,Znb,h5,a4,b4,k1,s1,s2] | simp (disch:=omega) only [dxB])
      all_goals try rfl
     ·subst k1
      repeat' (first | simp only [seval,exC,Zau,Znb,h5,a4,b4,k2,s1,s2] | simp (disch:=omega) only [dxB])
      all_goals try rfl
     ·subst k1 k2
      cases n <;> cases n' <;> first | exact absurd rfl k3 | (
       repeat' (first | simp only [seval,exC,Zau,Znb,h5,s1,s2] | simp (disch:=omega) only [dxB])
       all_goals try rfl)
end Go.Cv
namespace Go.Cv
variable {G : Nat→Option (List AV)} {T : Tbl} {g : Nat}
theorem Zhk (cs : List AV) (o b o' : Nat) : apart (.iptr cs o) (.ptr b o') = true:=rfl
theorem Zox (J : Al G T g) (F : Fm) {md : Int} (hm : 1≤md∧md≤5) {a b : Nat} (ha : a < 2 * F.sg) (hb : b < 2 * F.sg) :
  run G T 164 [.int .u8 F.u,.int .u8 md,.int .u64 (a : Int),.int .u64 (b : Int)] = some (.tup [.int .u64 ((addW F md a b).1 : Int),.int .u8 ((addW F md a b).2 : Int),.int .i64 0]):=by
 rw [Zab G T J.U.Zox]
 obtain ⟨z1,z2,o1⟩:=Zpg J F hm ha hb
 have s1:=Zwh J F hm (c:=F.cls a) (n:=F.ng a) (z:=z1) (d:=F.vl a) (c':=F.cls b) (n':=F.ng b) (z':=z2) (d':=F.vl b) (Zes F a) (Zes F b) ((ZbO F a).mono (by decide)) ((ZbO F b).mono (by decide))
 unfold addW
 generalize addP F md (F.cls a) (F.ng a) (F.vl a) (F.cls b) (F.ng b) (F.vl b) = S at *
 unfold ptC at o1
 generalize F.cls a = ca at *
 generalize F.ng a = na at *
 generalize F.vl a = va at *
 generalize F.cls b = cb at *
 generalize F.ng b = nb at *
 generalize F.vl b = vb at *
 simp only [deskA,ptA,List.cons_append,List.nil_append] at *
 repeat' (first | simp only [seval,exC,Zmp,o1,Zry,Zrz,r5_0,r5_5,s1] | simp (disch:=omega) only [dxB])
 all_goals try rfl
theorem ZpQ (J : Al G T g) (F : Fm) {md : Int} (hm : 1≤md∧md≤5) {a b : Nat} (ha : a < 2 * F.sg) (hb : b < 2 * F.sg) :
  run G T 166 [.int .u8 F.u,.int .u8 md,.int .u64 (a : Int),.int .u64 (b : Int)] = some (.tup [.int .u64 ((subW F md a b).1 : Int),.int .u8 ((subW F md a b).2 : Int),.int .i64 0]):=by
 rw [Zab G T J.U.ZpQ]
 obtain ⟨z1,z2,o1⟩:=Zpg J F hm ha hb
 obtain ⟨z3,n1⟩:=ZpC J (z:=z2) (d:=F.vl b) (Zaw (Zes F b) ((ZbO F b).mono (by decide)))
 have s1:=Zwh J F hm (c:=F.cls a) (n:=F.ng a) (z:=z1) (d:=F.vl a) (c':=F.cls b) (n':=!F.ng b) (z':=z3) (d':=negD (F.vl b)) (Zes F a) (ZrK (Zes F b)) ((ZbO F a).mono (by decide)) (((ZbO F b).neg).mono (by decide))
 unfold subW
 generalize addP F md (F.cls a) (F.ng a) (F.vl a) (F.cls b) (!F.ng b) (negD (F.vl b)) = S at *
 unfold ptC at o1
 generalize negD (F.vl b) = vb' at *
 generalize F.cls a = ca at *
 generalize F.ng a = na at *
 generalize F.vl a = va at *
 generalize F.cls b = cb at *
 generalize F.ng b = nb at *
 generalize F.vl b = vb at *
 simp only [deskA,ptA,DyA,A3,List.cons_append,List.nil_append] at *
 cases nb <;> (
  simp only [Bool.not_true,Bool.not_false] at s1
  repeat' (first | simp only [seval,exC,Zmq,o1,Zry,Zrz,r5_0,r5_5,n1,s1] | simp (disch:=omega) only [dxB])
  all_goals try rfl)
set_option maxHeartbeats 8000000 in
theorem Zoy (J : Al G T g) (F : Fm) {md : Int} (hm : 1≤md∧md≤5) {a b : Nat} (ha : a < 2 * F.sg) (hb : b < 2 * F.sg) :
  run G T 165 [.int .u8 F.u,.int .u8 md,.int .u64 (a : Int),.int .u64 (b : Int)] = some (.tup [.int .u64 ((mulW2 F md a b).1 : Int),.int .u8 ((mulW2 F md a b).2 : Int),.int .i64 0]):=by
 rw [Zab G T J.U.Zoy]
 obtain ⟨z1,z2,o1⟩:=Zpg J F hm ha hb
 have hk:=fun k => ZuN J (k:=k) (c:=F.cls a) (c':=F.cls b) (n:=F.ng a) (s:=(F.vl a).n) (n':=F.ng b) (s':=(F.vl b).n) (z:=z1) (z':=z2) (l:=dl (F.vl a).m) (l':=dl (F.vl b).m) (e:=(F.vl a).e) (e':=(F.vl b).e)
 have h5:=hk 5
 have h4:=hk 4
 have h1:=hk 1
 have nn:=fun x => ZtL J F (md:=md) (x:=x)
 have inf:=fun x => Zwi J F (md:=md) (x:=x) (n:=F.ng a != F.ng b)
 have ze:=Zqk J F (md:=md) (n:=F.ng a != F.ng b)
 have b1:=ZbO F a
 have b2:=ZbO F b
 obtain ⟨z3,m1⟩:=Zmu J (z:=z1) (y:=z2) (b1.mono (by decide)) (b2.mono (by decide)) (Zaw (Zes F a) (b1.mono (by decide))) (Zaw (Zes F b) (b2.mono (by decide)))
 have s1:=Zwj J F hm (z:=z3) (Zdc (F.vl a) (F.vl b)) ((ZjE b1 b2).mono (by decide))
 unfold mulW2 mulP
 unfold ptC at o1
 generalize sumW F md (mulD (F.vl a) (F.vl b)) = S at *
 generalize mulD (F.vl a) (F.vl b) = s at *
 clear b1 b2 hk
 generalize F.cls a = ca at *
 generalize F.ng a = na at *
 generalize F.vl a = va at *
 generalize F.cls b = cb at *
 generalize F.ng b = nb at *
 generalize F.vl b = vb at *
 simp only [deskA,DyA,A3,List.cons_append,List.nil_append] at *
 have hne : (na != nb) = !decide (na = nb):=by cases na <;> cases nb <;> rfl
 rw [hne] at inf ze ⊢
 by_cases q5 : ca = 5∨cb = 5
 ·rw [decide_eq_true q5] at h5
  rw [if_pos q5]
  repeat' (first | simp only [seval,exC,ZeK,Zhk,o1,Zry,Zrz,r5_0,r5_5,h5,nn] | simp (disch:=omega) only [dxB])
  all_goals try rfl
 ·rw [decide_eq_false q5] at h5
  rw [if_neg q5]
  by_cases q4 : ca = 4∨cb = 4
  ·rw [decide_eq_true q4] at h4
   by_cases q1 : ca = 1∨cb = 1
   ·rw [decide_eq_true q1] at h1
    rw [if_pos (show (ca = 4∨cb = 4)∧(ca = 1∨cb = 1) from ⟨q4,q1⟩)]
    repeat' (first | simp only [seval,exC,ZeK,Zhk,o1,Zry,Zrz,r5_0,r5_5,h5,h4,h1,nn] | simp (disch:=omega) only [dxB])
    all_goals try rfl
   ·rw [decide_eq_false q1] at h1
    rw [if_neg (show ¬ ((ca = 4∨cb = 4)∧(ca = 1∨cb = 1)) from fun h => q1 h.2),if_pos q4]
    repeat' (first | simp only [seval,exC,ZeK,Zhk,o1,Zry,Zrz,r5_0,r5_5,h5,h4,h1,inf] | simp (disch:=omega) only [dxB])
    all_goals try rfl
  ·rw [decide_eq_false q4] at h4
   rw [if_neg (show ¬ ((ca = 4∨cb = 4)∧(ca = 1∨cb = 1)) from fun h => q4 h.1),if_neg q4]
   by_cases q1 : ca = 1∨cb = 1
   ·rw [decide_eq_true q1] at h1
    rw [if_pos q1]
    repeat' (first | simp only [seval,exC,ZeK,Zhk,o1,Zry,Zrz,r5_0,r5_5,h5,h4,h1,ze] | simp (disch:=omega) only [dxB])
    all_goals try rfl
   ·rw [decide_eq_false q1] at h1
    rw [if_neg q1]
    repeat' (first | simp only [seval,exC,ZeK,Zhk,o1,Zry,Zrz,r5_0,r5_5,h5,h4,h1,m1,s1] | simp (disch:=omega) only [dxB])
    all_goals try rfl
end Go.Cv
namespace Go.Cv
variable {G : Nat→Option (List AV)} {T : Tbl} {g : Nat}
section
variable {f md a b c e : Int}
end
end Go.Cv
namespace Go.Cv
variable {G : Nat→Option (List AV)} {T : Tbl} {g : Nat}
theorem ZpD (J : Al G T g) {z : Bool} {d : Dy} (hd : mayD d.n (dl d.m) d.e = true) : run G T 206 [DyA z d] = some (.int .i64 (topD d)):=by
 rw [Zab G T J.U.ZpD]
 have h1:=Zda J d.n z (Zao d.m) d.e
 rw [hd] at h1
 obtain ⟨f1,f2,f3,f4,f5⟩:=Zbx hd
 have l1:=ZfG J (z:=z) f1
 have hb:=ZdM f1
 unfold topD
 obtain ⟨n,m,e⟩:=d
 simp only at *
 by_cases h0 : m = 0
 ·have c1 : ((dl m).length : Int) = 0:=by have:=Zan.2 h0; omega
  rw [if_pos h0]
  simp only [DyA,A3] at *
  repeat' (first | simp only [seval,exC,ZjK,h1,c1] | simp (disch:=omega) only [dxB])
 ·have c1 : ¬ ((dl m).length : Int) = 0:=fun hc => h0 (Zan.1 (by omega))
  have w1 : IntKind.i64.wrap (e + (blen m : Int)) = e + blen m:=Zac (by omega)
  rw [if_neg h0]
  simp only [DyA,A3] at *
  repeat' (first | simp only [seval,exC,ZjK,h1,c1,l1,w1] | simp (disch:=omega) only [dxB])
def szD (a b : Dy) : Int:=if topD a < topD b then -1 else if topD b < topD a then 1 else cmpN (a.m * 2 ^ (blen b.m - blen a.m)) (b.m * 2 ^ (blen a.m - blen b.m))
theorem ZoJ (J : Al G T g) {z y : Bool} {a b : Dy} (za : Nz a) (zb : Nz b) (ha : Bd a 65537) (hb : Bd b 65537) (h0 : a.m = 0↔b.m = 0) :
  run G T 199 [DyA z a,DyA y b] = some (.int .i64 (szD a b)):=by
 rw [Zab G T J.U.ZoJ]
 have ma:=Zaw za (ha.mono (by decide))
 have mb:=Zaw zb (hb.mono (by decide))
 have t1:=ZpD J (z:=z) ma
 have t2:=ZpD J (z:=y) mb
 have f1:=(Zbx ma).1
 have f2:=(Zbx mb).1
 have l1:=ZfG J (z:=z) f1
 have l2:=ZfG J (z:=y) f2
 have b1:=ha.bl
 have b2:=hb.bl
 unfold szD
 by_cases c1 : topD a < topD b
 ·rw [if_pos c1]
  simp only [DyA,A3] at *
  repeat' (first | simp only [seval,exC,Zdf,t1,t2,c1] | simp (disch:=omega) only [dxB])
 ·rw [if_neg c1]
  by_cases c2 : topD b < topD a
  ·rw [if_pos c2]
   simp only [DyA,A3] at *
   repeat' (first | simp only [seval,exC,Zdf,t1,t2,c1,c2] | simp (disch:=omega) only [dxB])
  ·rw [if_neg c2]
   have w1 : IntKind.i64.wrap ((blen a.m : Int) - (blen b.m : Int)) = (blen a.m : Int) - (blen b.m : Int):=Zac (by omega)
   by_cases c3 : (0 : Int) < (blen a.m : Int) - (blen b.m : Int)
   ·obtain ⟨z1,s1⟩:=Zct J (z:=y) (a:=b.m) (n:=blen a.m - blen b.m) f2 (Or.inr (by omega)) (by omega)
    rw [show ((blen a.m - blen b.m : Nat) : Int) = (blen a.m : Int) - (blen b.m : Int) by omega] at s1
    have hbm : blen (b.m * 2 ^ (blen a.m - blen b.m))≤131072:=by
     have:=ZfP b.m (blen a.m - blen b.m); omega
    have k1:=ZqJ J (z:=z) (y:=z1) f1 (Zak hbm)
    rw [show blen b.m - blen a.m = 0 by omega,Nat.pow_zero,Nat.mul_one]
    clear hbm ma mb za zb ha hb h0 b1 b2 f1 f2
    generalize topD a = ta at *
    generalize topD b = tb at *
    simp only [DyA,A3] at *
    repeat' (first | simp only [seval,exC,Zdf,t1,t2,c1,c2,l1,l2,w1,c3,s1,k1] | simp (disch:=omega) only [dxB])
   ·obtain ⟨z1,s1⟩:=Zct J (z:=z) (a:=a.m) (n:=blen b.m - blen a.m) f1 (Or.inr (by omega)) (by omega)
    rw [show ((blen b.m - blen a.m : Nat) : Int) = 0 - ((blen a.m : Int) - (blen b.m : Int)) by omega] at s1
    have hbm : blen (a.m * 2 ^ (blen b.m - blen a.m))≤131072:=by
     have:=ZfP a.m (blen b.m - blen a.m); omega
    have k1:=ZqJ J (z:=z1) (y:=y) (Zak hbm) f2
    have w2 : IntKind.i64.wrap (0 - ((blen a.m : Int) - (blen b.m : Int))) = 0 - ((blen a.m : Int) - (blen b.m : Int)):=Zac (by omega)
    rw [show blen a.m - blen b.m = 0 by omega,Nat.pow_zero,Nat.mul_one]
    clear hbm ma mb za zb ha hb h0 b1 b2 f1 f2
    generalize topD a = ta at *
    generalize topD b = tb at *
    simp only [DyA,A3] at *
    repeat' (first | simp only [seval,exC,Zdf,t1,t2,c1,c2,l1,l2,w1,c3,w2,s1,k1] | simp (disch:=omega) only [dxB])
theorem ZEo (x y : Nat) : cmpN x y = sgI ((x : Int) - (y : Int)):=by
 unfold cmpN sgI
 repeat' split
 all_goals omega
theorem ZFQ (x : Int) : sgI (-x) = -sgI x:=by
 unfold sgI
 repeat' split
 all_goals omega
theorem ZIM {a b : Dy} (ha : a.m≠0) (hb : b.m≠0) : szD a b = sgI (((a.m * 2 ^ (a.e - min a.e b.e).toNat : Nat) : Int) - ((b.m * 2 ^ (b.e - min a.e b.e).toNat : Nat) : Int)):=by
 have t1 : topD a = a.e + blen a.m:=if_neg ha
 have t2 : topD b = b.e + blen b.m:=if_neg hb
 unfold szD
 rw [t1,t2]
 by_cases c1 : a.e + (blen a.m : Int) < b.e + blen b.m
 ·have:=Zxm ha hb (L:=min a.e b.e) (by omega) (by omega) c1
  rw [if_pos c1]
  generalize a.m * 2 ^ (a.e - min a.e b.e).toNat = A at *
  generalize b.m * 2 ^ (b.e - min a.e b.e).toNat = B at *
  unfold sgI; rw [if_pos (by omega)]
 ·rw [if_neg c1]
  by_cases c2 : b.e + (blen b.m : Int) < a.e + blen a.m
  ·have:=Zxm hb ha (L:=min a.e b.e) (by omega) (by omega) c2
   rw [if_pos c2]
   generalize a.m * 2 ^ (a.e - min a.e b.e).toNat = A at *
   generalize b.m * 2 ^ (b.e - min a.e b.e).toNat = B at *
   unfold sgI; rw [if_neg (by omega),if_pos (by omega)]
  ·rw [if_neg c2,ZEo,show blen b.m - blen a.m = (a.e - min a.e b.e).toNat by omega,show blen a.m - blen b.m = (b.e - min a.e b.e).toNat by omega]
theorem ZEn {a b : Dy} (h : sgnD a = sgnD b) : cmpD a b = sgnD a * szD a b:=by
 by_cases ha : a.m = 0
 ·have e1 : sgnD a = 0:=ZcJ.2 ha
  have e2 : b.m = 0:=ZcJ.1 (h ▸ e1)
  rw [Zpo (L:=0) (Or.inl ha) (Or.inl e2),ZcG ha,ZcG e2,e1,Int.zero_mul]; rfl
 ·have hb : b.m≠0:=fun hc => ha (ZcJ.1 (h.trans (ZcJ.2 hc)))
  rw [Zpo (L:=min a.e b.e) (Or.inr (by omega)) (Or.inr (by omega)),ZIM ha hb]
  unfold iv
  unfold sgnD at h ⊢
  rw [if_neg ha] at h ⊢
  rw [if_neg hb] at h
  generalize a.m * 2 ^ (a.e - min a.e b.e).toNat = A at *
  generalize b.m * 2 ^ (b.e - min a.e b.e).toNat = B at *
  generalize a.n = x at *
  generalize b.n = y at *
  cases x <;> cases y <;> simp only [Bool.false_eq_true,if_false,if_true] at h ⊢
  ·rw [Int.one_mul,Int.one_mul,Int.one_mul]
  ·exact absurd h (by decide)
  ·exact absurd h (by decide)
  ·rw [show (-1 : Int) * (A : Int) - -1 * (B : Int) = -((A : Int) - B) by omega,ZFQ]; omega
theorem ZGe (a b : Dy) : szD a b = -1∨szD a b = 0∨szD a b = 1:=by
 unfold szD cmpN
 repeat' split
 all_goals omega
theorem ZCu (a : Dy) : sgnD a = -1∨sgnD a = 0∨sgnD a = 1:=by
 unfold sgnD
 repeat' split
 all_goals omega
theorem Zsv (J : Al G T g) {z y : Bool} {a b : Dy} (za : Nz a) (zb : Nz b) (ha : Bd a 65537) (hb : Bd b 65537) :
  run G T 190 [DyA z a,DyA y b] = some (.tup [.int .i64 (cmpD a b),.int .i64 0]):=by
 rw [Zab G T J.U.Zsv]
 have ma:=Zaw za (ha.mono (by decide))
 have mb:=Zaw zb (hb.mono (by decide))
 have b0:=ZjU J (n:=a.n) (z:=z) (n':=b.n) (z':=y) (Zao a.m) (Zao b.m) (e:=a.e) (e':=b.e)
 rw [ma,mb,Bool.and_self] at b0
 have s1:=Zcn J (n:=a.n) (z:=z) (Zao a.m) (e:=a.e)
 rw [ZfK ma] at s1
 have s2:=Zcn J (n:=b.n) (z:=y) (Zao b.m) (e:=b.e)
 rw [ZfK mb] at s2
 have e1 : (if a.m = 0 then 0 else if a.n = true then (-1 : Int) else 1) = sgnD a:=rfl
 have e2 : (if b.m = 0 then 0 else if b.n = true then (-1 : Int) else 1) = sgnD b:=rfl
 rw [e1] at s1
 rw [e2] at s2
 by_cases h : sgnD a = sgnD b
 ·have k1:=ZoJ J (z:=z) (y:=y) za zb ha hb ⟨fun h0 => ZcJ.1 (h ▸ ZcJ.2 h0),fun h0 => ZcJ.1 (h.trans (ZcJ.2 h0))⟩
  rw [ZEn h]
  have r1:=ZCu a
  have r2:=ZGe a b
  have w1 : IntKind.i64.wrap (sgnD a * szD a b) = sgnD a * szD a b:=by
   rcases r1 with r | r | r <;> rcases r2 with q | q | q <;> rw [r,q] <;> rfl
  rw [← h] at s2
  clear ma mb za zb ha hb e1 e2 h
  generalize sgnD a = s at *
  generalize szD a b = q at *
  simp only [DyA,A3] at *
  have c1 : ¬ s < s:=by omega
  repeat' (first | simp only [seval,exC,ZhJ,b0,s1,s2,c1,k1,w1] | simp (disch:=omega) only [dxB])
 ·have hc : cmpD a b = if sgnD a < sgnD b then -1 else 1:=by unfold cmpD; rw [if_pos h]
  rw [hc]
  clear ma mb za zb ha hb e1 e2 hc
  generalize sgnD a = s at *
  generalize sgnD b = t at *
  simp only [DyA,A3] at *
  by_cases c1 : s < t
  ·rw [if_pos c1]
   repeat' (first | simp only [seval,exC,ZhJ,b0,s1,s2,c1] | simp (disch:=omega) only [dxB])
  ·rw [if_neg c1]
   have c2 : t < s:=by omega
   repeat' (first | simp only [seval,exC,ZhJ,b0,s1,s2,c1,c2] | simp (disch:=omega) only [dxB])
def zA (a b : Nat) : AV:=.agg [.int .u64 (a : Int),.int .u64 (b : Int)]
def zcl (c c' : Int) : Int:=if c = 4∨c' = 4 then 3 else if c = 5∨c' = 5 then 4 else if c = 1∧c' = 1 then 1 else 2
def sqD (F : Fm) (a b : Nat) : Dy:=addD (mulD (F.vl a) (F.vl a)) (mulD (F.vl b) (F.vl b))
theorem Znc (J : Al G T g) (F : Fm) {w : Nat} (hw : w < 18446744073709551616) (hb : ¬ w < 2 * F.sg) : run G T 193 [.int .u8 F.u,.int .u64 (w : Int)] = some (.tup [.int .u8 0,.int .i64 6]):=by
 rw [Zab G T J.U.Zby]
 have h1:=ZhS J F hw
 rw [if_neg hb] at h1
 simp only [shA] at *
 repeat' (first | simp only [seval,exC,ZgO,h1] | simp (disch:=omega) only [dxB])
theorem ZbN (J : Al G T g) (F : Fm) {a b : Nat} (ha : a < 2 * F.sg) (hb : b < 2 * F.sg) : run G T 189 [.int .u8 F.u,zA a b] = some (.tup [.int .u8 (zcl (F.cls a) (F.cls b)),.int .i64 0]):=by
 rw [Zab G T J.U.ZbN]
 have h1:=Zby J F ha
 have h2:=Zby J F hb
 unfold zcl
 generalize F.cls a = c at *
 generalize F.cls b = d at *
 simp only [zA] at *
 by_cases q4 : c = 4∨d = 4
 ·rw [if_pos q4]
  by_cases k : c = 4
  ·repeat' (first | simp only [seval,exC,ZaR,h1,h2,k] | simp (disch:=omega) only [dxB])
  ·have k2 : d = 4:=by omega
   repeat' (first | simp only [seval,exC,ZaR,h1,h2,k,k2] | simp (disch:=omega) only [dxB])
 ·rw [if_neg q4]
  have k1 : ¬ c = 4:=by omega
  have k2 : ¬ d = 4:=by omega
  by_cases q5 : c = 5∨d = 5
  ·rw [if_pos q5]
   by_cases k : c = 5
   ·subst k; repeat' (first | simp only [seval,exC,ZaR,h1,h2,k2] | simp (disch:=omega) only [dxB])
   ·have k3 : d = 5:=by omega
    subst k3; repeat' (first | simp only [seval,exC,ZaR,h1,h2,k,k1] | simp (disch:=omega) only [dxB])
  ·rw [if_neg q5]
   have k3 : ¬ c = 5:=by omega
   have k4 : ¬ d = 5:=by omega
   by_cases q1 : c = 1∧d = 1
   ·rw [if_pos q1]
    obtain ⟨rfl,rfl⟩:=q1
    repeat' (first | simp only [seval,exC,ZaR,h1,h2] | simp (disch:=omega) only [dxB])
   ·rw [if_neg q1]
    by_cases k5 : c = 1
    ·have k6 : ¬ d = 1:=fun h => q1 ⟨k5,h⟩
     subst k5; repeat' (first | simp only [seval,exC,ZaR,h1,h2,k2,k4,k6] | simp (disch:=omega) only [dxB])
    ·repeat' (first | simp only [seval,exC,ZaR,h1,h2,k1,k2,k3,k4,k5] | simp (disch:=omega) only [dxB])
theorem ZmY (J : Al G T g) (F : Fm) {a b : Nat} (ha : a < 18446744073709551616) (hb : b < 18446744073709551616) (h : ¬ (a < 2 * F.sg∧b < 2 * F.sg)) : run G T 189 [.int .u8 F.u,zA a b] = some (.tup [.int .u8 0,.int .i64 6]):=by
 rw [Zab G T J.U.ZbN]
 by_cases k1 : a < 2 * F.sg
 ·have h1:=Zby J F k1
  have h2:=Znc J F hb (fun q => h ⟨k1,q⟩)
  generalize F.cls a = c at *
  simp only [zA] at *
  repeat' (first | simp only [seval,exC,ZaR,h1,h2] | simp (disch:=omega) only [dxB])
 ·have h1:=Znc J F ha k1
  simp only [zA] at *
  repeat' (first | simp only [seval,exC,ZaR,h1] | simp (disch:=omega) only [dxB])
theorem Ztv (F : Fm) (a b : Nat) : Bd (sqD F a b) 65537:=(ZhT (ZjE (ZbO F a) (ZbO F a)) (ZjE (ZbO F b) (ZbO F b))).mono (by decide)
theorem ZAK (F : Fm) (a b : Nat) : Nz (sqD F a b):=ZnE (Zdc _ _) (Zdc _ _)
theorem Zui (d : Dy) : (mulD d d).n = false:=by
 unfold mulD
 rw [show (d.n != d.n) = false by cases d.n <;> rfl]
 unfold mkD; split <;> rfl
theorem Zxg (F : Fm) (a b : Nat) : (sqD F a b).n = false:=by
 unfold sqD
 have h1:=Zui (F.vl a)
 have h2:=Zui (F.vl b)
 generalize mulD (F.vl a) (F.vl a) = x at *
 generalize mulD (F.vl b) (F.vl b) = y at *
 unfold addD
 rw [h1,h2]
 repeat' split
 all_goals first | assumption | (unfold mkD; split <;> rfl)
theorem Zee (J : Al G T g) (F : Fm) {a b : Nat} (ha : a < 2 * F.sg) (hb : b < 2 * F.sg) :
  ∃ z,run G T 191 [.int .u8 F.u,zA a b] = some (DyA z (sqD F a b)):=by
 obtain ⟨z1,k1,v1⟩:=ZcR J F ha
 obtain ⟨z2,k2,v2⟩:=ZcR J F hb
 have b1:=ZbO F a
 have b2:=ZbO F b
 have y1:=Zaw (Zes F a) (b1.mono (by decide))
 have y2:=Zaw (Zes F b) (b2.mono (by decide))
 obtain ⟨z3,m1⟩:=Zmu J (z:=z1) (y:=z1) (b1.mono (by decide)) (b1.mono (by decide)) y1 y1
 obtain ⟨z4,m2⟩:=Zmu J (z:=z2) (y:=z2) (b2.mono (by decide)) (b2.mono (by decide)) y2 y2
 have b3:=ZjE b1 b1
 have b4:=ZjE b2 b2
 obtain ⟨z5,s1⟩:=Zmt J (z:=z3) (y:=z4) b3 b4 (Zaw (Zdc _ _) (b3.mono (by decide))) (Zaw (Zdc _ _) (b4.mono (by decide)))
 refine ⟨z5,?_⟩
 rw [Zab G T J.U.Zee]
 unfold sqD
 generalize addD (mulD (F.vl a) (F.vl a)) (mulD (F.vl b) (F.vl b)) = d at *
 generalize mulD (F.vl a) (F.vl a) = p at *
 generalize mulD (F.vl b) (F.vl b) = q at *
 generalize F.vl a = va at *
 generalize F.vl b = vb at *
 clear b1 b2 b3 b4 y1 y2
 simp only [zA,DyA,A3] at *
 repeat' (first | simp only [seval,exC,Zeh,v1,v2,m1,m2,s1] | simp (disch:=omega) only [dxB])
def toldW (F : Fm) (c : Int) (X : Nat × Nat) : Nat × Nat:=if c = 3 then (F.inf false,0) else if c = 4 then (F.nan,0) else X
theorem ZlK (J : Al G T g) (F : Fm) {md : Int} (hm : 1≤md∧md≤5) {a b : Nat} (ha : a < 2 * F.sg) (hb : b < 2 * F.sg) {k : Nat} {X : Nat × Nat}
  (hk : ∀ z,run G T k [.int .u8 F.u,.int .u8 md,DyA z (sqD F a b)] = some (.tup [.int .u64 (X.1 : Int),.int .u8 (X.2 : Int),.int .i64 0])) :
  run G T 186 [.int .u8 F.u,.int .u8 md,zA a b,.fn k []] = some (.tup [.int .u64 ((toldW F (zcl (F.cls a) (F.cls b)) X).1 : Int),.int .u8 ((toldW F (zcl (F.cls a) (F.cls b)) X).2 : Int),.int .i64 0]):=by
 rw [Zab G T J.U.ZlK]
 have o1:=ZeO J F hm (neg:=false)
 have c1:=ZbN J F ha hb
 have i1:=Zjp J F (n:=false)
 have n1:=Zhc J F
 obtain ⟨z,s1⟩:=Zee J F ha hb
 have hk:=hk z
 unfold toldW
 generalize zcl (F.cls a) (F.cls b) = c at *
 generalize sqD F a b = d at *
 simp only [zA,DyA,A3] at *
 by_cases k3 : c = 3
 ·rw [if_pos k3]
  repeat' (first | simp only [seval,exC,ZcL,o1,c1,k3,i1] | simp (disch:=omega) only [dxB])
  all_goals rfl
 ·rw [if_neg k3]
  by_cases k4 : c = 4
  ·rw [if_pos k4]
   subst k4
   repeat' (first | simp only [seval,exC,ZcL,o1,c1,n1] | simp (disch:=omega) only [dxB])
   all_goals rfl
  ·rw [if_neg k4]
   repeat' (first | simp only [seval,exC,ZcL,o1,c1,k3,k4,s1,hk] | simp (disch:=omega) only [dxB])
   all_goals try rfl
noncomputable def rtW (F : Fm) (md : Int) (d : Dy) : Nat × Nat:=if d.m = 0 then (0,0) else rootW F md d
noncomputable def absZ (F : Fm) (md : Int) (a b : Nat) : Nat × Nat:=toldW F (zcl (F.cls a) (F.cls b)) (rtW F md (sqD F a b))
theorem Znm (J : Al G T g) (F : Fm) {md : Int} (hm : 1≤md∧md≤5) {a b : Nat} (ha : a < 2 * F.sg) (hb : b < 2 * F.sg) :
  run G T 169 [.int .u8 F.u,.int .u8 md,zA a b] = some (.tup [.int .u64 ((absZ F md a b).1 : Int),.int .u8 ((absZ F md a b).2 : Int),.int .i64 0]):=by
 rw [Zab G T J.U.Znm]
 have hd:=Zaw (ZAK F a b) ((Ztv F a b).mono (show 65537≤131072 by decide))
 have h1:=ZlK J F hm ha hb (k:=18) (X:=rtW F md (sqD F a b)) (fun z => by
  unfold rtW
  by_cases h0 : (sqD F a b).m = 0
  ·rw [if_pos h0]; exact Zri J F hm hd h0
  ·rw [if_neg h0]; exact ZmN J F hm hd h0 (Zxg F a b))
 unfold absZ
 generalize toldW F (zcl (F.cls a) (F.cls b)) (rtW F md (sqD F a b)) = S at *
 simp only [zA] at *
 repeat' (first | simp only [seval,exC,Zhp,h1] | simp (disch:=omega) only [dxB])
 all_goals try rfl
def cmpZ (F : Fm) (a b c d : Nat) : Int :=
 if zcl (F.cls a) (F.cls b) = 4∨zcl (F.cls c) (F.cls d) = 4 then 4
 else if zcl (F.cls a) (F.cls b) = 3∧zcl (F.cls c) (F.cls d) = 3 then 2
 else if zcl (F.cls a) (F.cls b) = 3 then 3
 else if zcl (F.cls c) (F.cls d) = 3 then 1
 else 2 + cmpD (sqD F a b) (sqD F c d)
theorem Znn (J : Al G T g) (F : Fm) {a b c d : Nat} (ha : a < 2 * F.sg) (hb : b < 2 * F.sg) (hc : c < 2 * F.sg) (hd : d < 2 * F.sg) :
  run G T 174 [.int .u8 F.u,zA a b,zA c d] = some (.tup [.int .u8 (cmpZ F a b c d),.int .i64 0]):=by
 rw [Zab G T J.U.Znn]
 have c1:=ZbN J F ha hb
 have c2:=ZbN J F hc hd
 obtain ⟨z1,s1⟩:=Zee J F ha hb
 obtain ⟨z2,s2⟩:=Zee J F hc hd
 have k1:=Zsv J (z:=z1) (y:=z2) (ZAK F a b) (ZAK F c d) (Ztv F a b) (Ztv F c d)
 have hv:=ZpA (sqD F a b) (sqD F c d)
 unfold cmpZ
 generalize zcl (F.cls a) (F.cls b) = x at *
 generalize zcl (F.cls c) (F.cls d) = y at *
 generalize cmpD (sqD F a b) (sqD F c d) = q at *
 generalize sqD F a b = p1 at *
 generalize sqD F c d = p2 at *
 simp only [zA,DyA,A3] at *
 by_cases q4 : x = 4∨y = 4
 ·rw [if_pos q4]
  by_cases k : x = 4
  ·subst k; repeat' (first | simp only [seval,exC,Zbq,c1,c2] | simp (disch:=omega) only [dxB])
  ·have k2 : y = 4:=by omega
   subst k2; repeat' (first | simp only [seval,exC,Zbq,c1,c2,k] | simp (disch:=omega) only [dxB])
 ·rw [if_neg q4]
  have n1 : ¬ x = 4:=by omega
  have n2 : ¬ y = 4:=by omega
  by_cases x3 : x = 3
  ·by_cases y3 : y = 3
   ·rw [if_pos ⟨x3,y3⟩]
    subst x3 y3; repeat' (first | simp only [seval,exC,Zbq,c1,c2] | simp (disch:=omega) only [dxB])
   ·rw [if_neg (fun h => y3 h.2),if_pos x3]
    subst x3; repeat' (first | simp only [seval,exC,Zbq,c1,c2,n2,y3] | simp (disch:=omega) only [dxB])
  ·rw [if_neg (fun h => x3 h.1),if_neg x3]
   by_cases y3 : y = 3
   ·rw [if_pos y3]
    subst y3; repeat' (first | simp only [seval,exC,Zbq,c1,c2,n1,x3] | simp (disch:=omega) only [dxB])
   ·rw [if_neg y3]
    have u1 : IntKind.u8.wrap (-1) = 255:=rfl
    have u2 : IntKind.u8.wrap 0 = 0:=rfl
    have u3 : IntKind.u8.wrap 1 = 1:=rfl
    have u4 : IntKind.u8.wrap (2 + 255) = 1:=rfl
    have u5 : IntKind.u8.wrap (2 + 0) = 2:=rfl
    have u6 : IntKind.u8.wrap (2 + 1) = 3:=rfl
    have u7 : IntKind.u8.wrap 257 = 1:=rfl
    have u8 : IntKind.u8.wrap 2 = 2:=rfl
    have u9 : IntKind.u8.wrap 3 = 3:=rfl
    rcases hv with rfl | rfl | rfl <;> (
     repeat' (first | simp only [seval,exC,Zbq,c1,c2,n1,n2,x3,y3,s1,s2,k1,u1,u2,u3,u4,u5,u6,u7,u8,u9] | simp (disch:=omega) only [dxB])
     all_goals try rfl)
end Go.Cv
namespace Go.Cv
variable {G : Nat→Option (List AV)} {T : Tbl} {g : Nat}
theorem ZbE (J : Al G T g) (F : Fm) {a b : Nat} (ha : a < 2 * F.sg) (hb : b < 2 * F.sg) : run G T 237 [.int .u8 F.u,zA a b] = some (.int .u8 (zcl (F.cls a) (F.cls b))):=by
 rw [Zab G T J.H.ZbE]
 have h1:=ZaA J F (ZaP ha)
 have h2:=ZaA J F (ZaP hb)
 unfold zcl
 generalize F.cls a = c at *
 generalize F.cls b = d at *
 simp only [zA] at *
 by_cases q4 : c = 4∨d = 4
 ·rw [if_pos q4]
  by_cases k : c = 4
  ·repeat' (first | simp only [seval,exC,ZaZ,h1,h2,k] | simp (disch:=omega) only [dxB])
  ·have k2 : d = 4:=by omega
   repeat' (first | simp only [seval,exC,ZaZ,h1,h2,k,k2] | simp (disch:=omega) only [dxB])
 ·rw [if_neg q4]
  have k1 : ¬ c = 4:=by omega
  have k2 : ¬ d = 4:=by omega
  by_cases q5 : c = 5∨d = 5
  ·rw [if_pos q5]
   by_cases k : c = 5
   ·subst k; repeat' (first | simp only [seval,exC,ZaZ,h1,h2,k2] | simp (disch:=omega) only [dxB])
   ·have k3 : d = 5:=by omega
    subst k3; repeat' (first | simp only [seval,exC,ZaZ,h1,h2,k,k1] | simp (disch:=omega) only [dxB])
  ·rw [if_neg q5]
   have k3 : ¬ c = 5:=by omega
   have k4 : ¬ d = 5:=by omega
   by_cases q1 : c = 1∧d = 1
   ·rw [if_pos q1]
    obtain ⟨rfl,rfl⟩:=q1
    repeat' (first | simp only [seval,exC,ZaZ,h1,h2] | simp (disch:=omega) only [dxB])
   ·rw [if_neg q1]
    by_cases k5 : c = 1
    ·have k6 : ¬ d = 1:=fun h => q1 ⟨k5,h⟩
     subst k5; repeat' (first | simp only [seval,exC,ZaZ,h1,h2,k2,k4,k6] | simp (disch:=omega) only [dxB])
    ·repeat' (first | simp only [seval,exC,ZaZ,h1,h2,k1,k2,k3,k4,k5] | simp (disch:=omega) only [dxB])
theorem ZvR {F : Fm} {a b : Nat} (h3 : zcl (F.cls a) (F.cls b)≠3) (h4 : zcl (F.cls a) (F.cls b)≠4) : F.fin a∧F.fin b:=by
 have ra:=ZbS F a
 have rb:=ZbS F b
 unfold zcl at h3 h4
 have k1 : ¬ (F.cls a = 4∨F.cls b = 4):=fun h => h3 (if_pos h)
 rw [if_neg k1] at h4
 have k2 : ¬ (F.cls a = 5∨F.cls b = 5):=fun h => h4 (if_pos h)
 exact ⟨Zbu.2 (by omega),Zbu.2 (by omega)⟩
theorem ZgV (J : Al G T g) (F : Fm) {a b : Nat} (ha : a < 2 * F.sg) (hb : b < 2 * F.sg) (fa : F.fin a) (fb : F.fin b) :
  ∃ z,run G T 236 [.int .u8 F.u,zA a b] = some (DyA z (sqD F a b)):=by
 obtain ⟨z1,v1⟩:=ZaX J F (ZaP ha) fa
 obtain ⟨z2,v2⟩:=ZaX J F (ZaP hb) fb
 rw [← Zdx fa] at v1
 rw [← Zdx fb] at v2
 obtain ⟨p1,p2,p3⟩:=ZbO F a
 obtain ⟨q1,q2,q3⟩:=ZbO F b
 have hl1:=Zaa (F.vl a).m
 have hl2:=Zaa (F.vl b).m
 obtain ⟨z3,m1⟩:=Zkc J (z:=z1) (y:=z1) (a:=F.vl a) (b:=F.vl a) (by omega) (by omega) (by omega) (by omega)
 obtain ⟨z4,m2⟩:=Zkc J (z:=z2) (y:=z2) (a:=F.vl b) (b:=F.vl b) (by omega) (by omega) (by omega) (by omega)
 obtain ⟨z5,s1⟩:=Zef J (z:=z3) (y:=z4) (a:=mulD (F.vl a) (F.vl a)) (b:=mulD (F.vl b) (F.vl b)) ((ZjE (ZbO F a) (ZbO F a)).mono (by decide)) ((ZjE (ZbO F b) (ZbO F b)).mono (by decide))
 refine ⟨z5,?_⟩
 rw [show mkD ((F.vl a).n != (F.vl a).n) ((F.vl a).m * (F.vl a).m) ((F.vl a).e + (F.vl a).e) = mulD (F.vl a) (F.vl a) from rfl] at m1
 rw [show mkD ((F.vl b).n != (F.vl b).n) ((F.vl b).m * (F.vl b).m) ((F.vl b).e + (F.vl b).e) = mulD (F.vl b) (F.vl b) from rfl] at m2
 rw [Zab G T J.H.ZgV]
 unfold sqD
 generalize addD (mulD (F.vl a) (F.vl a)) (mulD (F.vl b) (F.vl b)) = d at *
 generalize mulD (F.vl a) (F.vl a) = p at *
 generalize mulD (F.vl b) (F.vl b) = q at *
 generalize F.vl a = va at *
 generalize F.vl b = vb at *
 simp only [zA,DyA,A3] at *
 repeat' (first | simp only [seval,exC,Zgq,v1,v2,m1,m2,s1] | simp (disch:=omega) only [dxB])
theorem ZoX (J : Al G T g) (F : Fm) {a b : Nat} (ha : a < 2 * F.sg) (hb : b < 2 * F.sg) :
  (zcl (F.cls a) (F.cls b) = 3∧run G T 235 [.int .u8 F.u,zA a b] = some (.tup [.int .u64 ((F.inf false : Nat) : Int),.bool true])) ∨
  (zcl (F.cls a) (F.cls b) = 4∧run G T 235 [.int .u8 F.u,zA a b] = some (.tup [.int .u64 (F.nan : Int),.bool true])) ∨
  ((zcl (F.cls a) (F.cls b)≠3∧zcl (F.cls a) (F.cls b)≠4)∧run G T 235 [.int .u8 F.u,zA a b] = some (.tup [.int .u64 0,.bool false])):=by
 have c1:=ZbE J F ha hb
 have i1:=ZgU J F (n:=false)
 have n1:=ZdP J F
 rw [Zab G T J.H.ZoX]
 generalize zcl (F.cls a) (F.cls b) = c at *
 simp only [zA] at *
 by_cases k3 : c = 3
 ·left; refine ⟨k3,?_⟩
  subst k3
  repeat' (first | simp only [seval,exC,ZeH,c1,i1] | simp (disch:=omega) only [dxB])
 ·right
  by_cases k4 : c = 4
  ·left; refine ⟨k4,?_⟩
   subst k4
   repeat' (first | simp only [seval,exC,ZeH,c1,n1] | simp (disch:=omega) only [dxB])
  ·right; refine ⟨⟨k3,k4⟩,?_⟩
   repeat' (first | simp only [seval,exC,ZeH,c1,k3,k4] | simp (disch:=omega) only [dxB])
theorem ZlV (J : Al G T g) (F : Fm) {md : Int} (hm : 1≤md∧md≤5) {a b : Nat} (ha : a < 2 * F.sg) (hb : b < 2 * F.sg) :
  run G T 227 [.int .u8 F.u,.int .u8 md,zA a b] = some (.tup [.int .u64 ((absZ F md a b).1 : Int),.int .u8 ((absZ F md a b).2 : Int)]):=by
 rw [Zab G T J.H.ZlV]
 unfold absZ toldW
 rcases ZoX J F ha hb with ⟨k,e1⟩ | ⟨k,e1⟩ | ⟨⟨k3,k4⟩,e1⟩
 ·rw [if_pos k]
  simp only [zA] at *
  repeat' (first | simp only [seval,exC,ZfX,e1] | simp (disch:=omega) only [dxB])
  all_goals rfl
 ·rw [if_neg (by omega),if_pos k]
  simp only [zA] at *
  repeat' (first | simp only [seval,exC,ZfX,e1] | simp (disch:=omega) only [dxB])
  all_goals rfl
 ·rw [if_neg k3,if_neg k4]
  obtain ⟨fa,fb⟩:=ZvR k3 k4
  obtain ⟨z,s1⟩:=ZgV J F ha hb fa fb
  have r1 : run G T 19 [.int .u8 F.u,.int .u8 md,DyA z (sqD F a b)] = some (.tup [.int .u64 ((rtW F md (sqD F a b)).1 : Int),.int .u8 ((rtW F md (sqD F a b)).2 : Int)]):=by
   unfold rtW
   have hb1:=(Ztv F a b).bl
   by_cases h0 : (sqD F a b).m = 0
   ·rw [if_pos h0]; exact ZqY J F h0
   ·rw [if_neg h0]; exact ZmG J F hm h0 ((Ztv F a b).mono (by decide)) (by omega)
  generalize rtW F md (sqD F a b) = S at *
  generalize sqD F a b = d at *
  simp only [zA,DyA,A3] at *
  repeat' (first | simp only [seval,exC,ZfX,e1,s1,r1] | simp (disch:=omega) only [dxB])
  all_goals try rfl
theorem Zoo (J : Al G T g) (F : Fm) {a b c d : Nat} (ha : a < 2 * F.sg) (hb : b < 2 * F.sg) (hc : c < 2 * F.sg) (hd : d < 2 * F.sg) :
  run G T 229 [.int .u8 F.u,zA a b,zA c d] = some (.int .u8 (cmpZ F a b c d)):=by
 rw [Zab G T J.H.Zoo]
 have c1:=ZbE J F ha hb
 have c2:=ZbE J F hc hd
 have hs : zcl (F.cls a) (F.cls b)≠3→zcl (F.cls a) (F.cls b)≠4→zcl (F.cls c) (F.cls d)≠3→zcl (F.cls c) (F.cls d)≠4→∃ z1 z2,run G T 236 [.int .u8 F.u,zA a b] = some (DyA z1 (sqD F a b))∧run G T 236 [.int .u8 F.u,zA c d] = some (DyA z2 (sqD F c d)) ∧
   run G T 69 [DyA z1 (sqD F a b),DyA z2 (sqD F c d)] = some (.int .i64 (cmpD (sqD F a b) (sqD F c d))):=fun k1 k2 k3 k4 => by
  obtain ⟨fa,fb⟩:=ZvR k1 k2
  obtain ⟨fc,fd⟩:=ZvR k3 k4
  obtain ⟨z1,s1⟩:=ZgV J F ha hb fa fb
  obtain ⟨z2,s2⟩:=ZgV J F hc hd fc fd
  exact ⟨z1,z2,s1,s2,Zog J (z:=z1) (y:=z2) (a:=sqD F a b) (b:=sqD F c d) ((Ztv F a b).mono (by decide)) ((Ztv F c d).mono (by decide))⟩
 have hv:=ZpA (sqD F a b) (sqD F c d)
 unfold cmpZ
 generalize zcl (F.cls a) (F.cls b) = x at *
 generalize zcl (F.cls c) (F.cls d) = y at *
 generalize cmpD (sqD F a b) (sqD F c d) = q at *
 generalize sqD F a b = p1 at *
 generalize sqD F c d = p2 at *
 simp only [zA,DyA,A3] at *
 by_cases q4 : x = 4∨y = 4
 ·rw [if_pos q4]
  clear hs
  by_cases k : x = 4
  ·subst k; repeat' (first | simp only [seval,exC,ZcD,c1,c2] | simp (disch:=omega) only [dxB])
  ·have k2 : y = 4:=by omega
   subst k2; repeat' (first | simp only [seval,exC,ZcD,c1,c2,k] | simp (disch:=omega) only [dxB])
 ·rw [if_neg q4]
  have n1 : ¬ x = 4:=by omega
  have n2 : ¬ y = 4:=by omega
  by_cases x3 : x = 3
  ·clear hs
   by_cases y3 : y = 3
   ·rw [if_pos ⟨x3,y3⟩]
    subst x3 y3; repeat' (first | simp only [seval,exC,ZcD,c1,c2] | simp (disch:=omega) only [dxB])
   ·rw [if_neg (fun h => y3 h.2),if_pos x3]
    subst x3; repeat' (first | simp only [seval,exC,ZcD,c1,c2,n2,y3] | simp (disch:=omega) only [dxB])
  ·rw [if_neg (fun h => x3 h.1),if_neg x3]
   by_cases y3 : y = 3
   ·rw [if_pos y3]
    clear hs
    subst y3; repeat' (first | simp only [seval,exC,ZcD,c1,c2,n1,x3] | simp (disch:=omega) only [dxB])
   ·rw [if_neg y3]
    obtain ⟨z1,z2,s1,s2,k1⟩:=hs x3 n1 y3 n2
    clear hs
    rcases hv with rfl | rfl | rfl <;> (
     repeat' (first | simp only [seval,exC,ZcD,c1,c2,n1,n2,x3,y3,s1,s2,k1] | simp (disch:=omega) only [dxB])
     all_goals try rfl)
theorem Zqy (e : Env) (h : Heap) : evL G T Zdo e h = kS G T (evL G T ZaF (keepE [0,1,5] e) h) Zdo:=Zae G T rfl e h
section
variable (x y u v : AV) (k : IntKind)
theorem ZEH : iaddrV 2 (.imm 1 [x,y]) (.int k 0) = some (.iptr [x,y] 0):=rfl
theorem ZBB : iaddrV 2 (.imm 2 [x,y,u,v]) (.int k 0) = some (.iptr [x,y,u,v] 0):=rfl
theorem ZBC : iaddrV 2 (.imm 2 [x,y,u,v]) (.int k 1) = some (.iptr [x,y,u,v] 2):=rfl
theorem fa_i (off o : Nat) (cs : List AV) : faddrA off (.iptr cs o) = some (.iptr cs (o + off)):=rfl
end
theorem Zcu (F : CallF) (d : Option Nat) (os : List IOper) (e : Env) (h : Heap) (n : Nat) (zero : List AV) (ps : List (Nat × Nat × IOpd)) : evOps G F (⟨d,.bslice n 2 zero ps,none⟩ :: os) e h =
  kBs G F (fillA (repA n zero) (ps.map fun (o,n,x) => (o,n,opd e x))) (.own h.b.length 0 n 2) d os e h:=Zhb G F d os e h n 2 zero ps
theorem Zvw (J : Al G T g) (F : Fm) {a b : Nat} (ha : a < 18446744073709551616) (hb : b < 18446744073709551616) :
  run G T 185 [.int .u8 F.u,.imm 1 [.int .u64 (a : Int),.int .u64 (b : Int)]] = some (.int .i64 (if a < 2 * F.sg∧b < 2 * F.sg then 0 else 6)):=by
 rw [Zab G T J.U.ref10_Good]
 have h1:=Zol J F
 have h3:=ZhO J F ha
 have h4:=ZhO J F hb
 by_cases k1 : a < 2 * F.sg
 ·rw [if_pos k1] at h3
  by_cases k2 : b < 2 * F.sg
  ·rw [if_pos k2] at h4
   rw [if_pos ⟨k1,k2⟩]
   repeat' (first | simp only [seval,exC,Zcs,h1,Zqy,ZaF,ZEH,fa_i,rp_0,rp_1,wr_1,wr1,h3,h4] | simp (disch:=omega) only [dxB])
  ·rw [if_neg k2] at h4
   rw [if_neg (fun h => k2 h.2)]
   repeat' (first | simp only [seval,exC,Zcs,h1,Zqy,ZaF,ZEH,fa_i,rp_0,rp_1,wr_1,wr1,h3,h4] | simp (disch:=omega) only [dxB])
 ·rw [if_neg k1] at h3
  rw [if_neg (fun h => k1 h.1)]
  repeat' (first | simp only [seval,exC,Zcs,h1,Zqy,ZaF,ZEH,fa_i,rp_0,rp_1,wr_1,wr1,h3] | simp (disch:=omega) only [dxB])
end Go.Cv
namespace Go.Cv
variable {G : Nat→Option (List AV)} {T : Tbl} {g : Nat}
def Fm.can (F : Fm) (w : Nat) : Nat:=if F.cls w = 5 then F.nan else w
def Fm.min (F : Fm) (w : Nat) : Nat:=if F.cls w = 5 then F.nan else F.flip w
theorem ZlL {a b : Dy} (h : a.m = 0∨b.m = 0) : mulD a b = ⟨false,0,0⟩:=by
 unfold mulD
 rcases h with h | h
 ·rw [h,Nat.zero_mul]; rfl
 ·rw [h,Nat.mul_zero]; rfl
theorem Zns (J : Al G T g) (F : Fm) {w : Nat} (hw : w < 2 * F.sg) : run G T 173 [.int .u8 F.u,.int .u64 (w : Int)] = some (.int .u64 (F.can w : Int)):=by
 rw [Zab G T J.U.Zns]
 have h1:=ZaA J F (ZaP hw)
 have h2:=ZdP J F
 unfold Fm.can
 generalize F.cls w = c at *
 by_cases h : c = 5
 ·rw [if_pos h]; subst h; repeat' (first | simp only [seval,exC,Zfi,h1,h2] | simp (disch:=omega) only [dxB])
 ·rw [if_neg h]; repeat' (first | simp only [seval,exC,Zfi,h1,h2,h] | simp (disch:=omega) only [dxB])
theorem fd_3 (b : Bool) (x y : AV) : fieldA false 0 1 (.agg [.bool b,x,y]) = some (.bool b):=rfl
theorem Znt (J : Al G T g) (F : Fm) {w : Nat} (hw : w < 2 * F.sg) : run G T 188 [.int .u8 F.u,.int .u64 (w : Int)] = some (.int .u64 (F.min w : Int)):=by
 rw [Zab G T J.U.Znt]
 have h1:=ZaA J F (ZaP hw)
 have h2:=ZdP J F
 have h3:=ZbZ J F (ZaP hw)
 have h4:=Zbe J F (n:=!F.ng w) (w:=w)
 rw [show w % F.sg + F.sgn (!F.ng w) = F.flip w from rfl] at h4
 unfold Fm.min
 generalize F.flip w = fw at *
 generalize F.cls w = c at *
 generalize F.ex w = x at *
 generalize F.fc w = y at *
 generalize F.ng w = n at *
 simp only [fldA] at *
 by_cases h : c = 5
 ·rw [if_pos h]; subst h; repeat' (first | simp only [seval,exC,Zfm,h1,h2] | simp (disch:=omega) only [dxB])
 ·rw [if_neg h]
  cases n <;> (
   simp only [Bool.not_true,Bool.not_false] at h4
   repeat' (first | simp only [seval,exC,Zfm,h1,h,h3,fd_3,h4] | simp (disch:=omega) only [dxB]))
theorem ZoW (J : Al G T g) (F : Fm) {a b : Nat} (ha : a < 2 * F.sg) (hb : b < 2 * F.sg) : run G T 172 [.int .u8 F.u,zA a b] = some (zA (F.can a) (F.min b)):=by
 rw [Zab G T J.U.ZoW]
 have h1:=Zns J F ha
 have h2:=Znt J F hb
 simp only [zA] at *
 repeat' (first | simp only [seval,exC,ZiX,h1,h2] | simp (disch:=omega) only [dxB])
theorem Zpb (F : Fm) (md : Int) (d : Dy) (h0 : d.m≠0) (j : Nat) :
  rootW F md d = sW F md false (isq (d.m * 2 ^ (rootP d.e + 2 * j))) (!decide (isq (d.m * 2 ^ (rootP d.e + 2 * j)) * isq (d.m * 2 ^ (rootP d.e + 2 * j)) = d.m * 2 ^ (rootP d.e + 2 * j))) ((d.e - (rootP d.e : Nat)) / 2 - j):=by
 have hF:=ZsB F
 have hX : d.m * 2 ^ (rootP d.e + 2 * j) = d.m * 2 ^ rootP d.e * 2 ^ (2 * j):=by rw [Nat.pow_add,Nat.mul_assoc]
 have hp:=Nat.two_pow_pos (2 * j)
 have hd : d.m * 2 ^ (rootP d.e + 2 * j) / 2 ^ (2 * j) = d.m * 2 ^ rootP d.e:=by rw [hX,Nat.mul_div_cancel _ hp]
 have hm : d.m * 2 ^ (rootP d.e + 2 * j) % 2 ^ (2 * j) = 0:=by rw [hX]; exact Nat.mul_mod_left ..
 obtain ⟨r1,r2⟩:=Zgy (d.m * 2 ^ (rootP d.e + 2 * j))
 obtain ⟨t1,t2⟩:=Zgy (d.m * 2 ^ rootP d.e)
 have hP : rootP d.e = 130 + (d.e % 2).toNat:=rfl
 have hbp:=ZcV h0
 have hbm:=Zav h0 (rootP d.e)
 have hbt : 64 < blen (isq (d.m * 2 ^ rootP d.e)):=ZgX (k:=64) (M:=d.m * 2 ^ rootP d.e) (by
  have:=ZbD (n:=d.m * 2 ^ rootP d.e) (by intro hc; rw [hc,Zag] at hbm; omega)
  rw [← Nat.pow_add]
  exact Nat.le_trans (Nat.pow_le_pow_right (by decide) (by omega)) this) t2
 have h3:=ZAa F md false (X:=d.m * 2 ^ (rootP d.e + 2 * j)) (r:=isq (d.m * 2 ^ (rootP d.e + 2 * j))) (t:=isq (d.m * 2 ^ rootP d.e)) (j:=j) ((d.e - (rootP d.e : Nat)) / 2 - j) r1 r2 (by rw [hd]; exact t1) (by rw [hd]; exact t2) (by omega)
 rw [← h3,hd,hm]
 unfold rootW
 rw [decide_eq_true rfl,Bool.not_true,Bool.false_or,Int.sub_add_cancel]
theorem ZzZ (F : Fm) (md : Int) {r : Nat} (lost : Bool) (E : Int) (h : F.fr + 2≤blen r) : sW F md false r lost E = rndW F md (mkD false (r * 2 ^ 2 + lost.toNat) (E - 2)):=by
 have hr : r≠0:=by rintro rfl; rw [Zag] at h; omega
 have hb:=Zav hr 2
 cases lost
 ·have h1:=Zte F md false (M:=r * 2 ^ 2) (E - 2) (by omega)
  rw [show r * 2 ^ 2 + Bool.toNat false = r * 2 ^ 2 from rfl,h1]
  have h2:=ZgB F md false (Q:=r * 2 ^ 2) (j:=2) false (E - 2) (by omega)
  rw [Nat.mul_div_cancel _ (by decide),Nat.mul_mod_left,show E - 2 + ((2 : Nat) : Int) = E by omega] at h2
  rw [← h2]; rfl
 ·have hb2:=Zap (show r * 2 ^ 2≤r * 2 ^ 2 + 1 by omega)
  have h1:=Zte F md false (M:=r * 2 ^ 2 + 1) (E - 2) (by omega)
  rw [show r * 2 ^ 2 + Bool.toNat true = r * 2 ^ 2 + 1 from rfl,h1]
  exact (ZuE F md false (j:=2) E (by decide) (by omega)).symm
theorem ZBI {X Y : Nat} (h : X≤Y) : isq X≤isq Y:=by
 obtain ⟨a1,a2⟩:=Zgy X
 obtain ⟨b1,b2⟩:=Zgy Y
 rcases Nat.lt_or_ge (isq Y) (isq X) with k | k
 ·have:=Nat.mul_le_mul (show isq Y + 1≤isq X from k) (show isq Y + 1≤isq X from k)
  omega
 ·exact k
theorem ZvL {X Y : Nat} (h : X≤Y) : isq X * 2 ^ 2 + (!decide (isq X * isq X = X)).toNat≤isq Y * 2 ^ 2 + (!decide (isq Y * isq Y = Y)).toNat:=by
 have hm:=ZBI h
 have h1 : ∀ b : Bool,b.toNat≤1:=fun b => by cases b <;> decide
 rcases Nat.lt_or_ge (isq X) (isq Y) with k | k
 ·have:=h1 (!decide (isq X * isq X = X))
  omega
 ·have e : isq X = isq Y:=by omega
  by_cases q : isq X * isq X = X
  ·rw [decide_eq_true q]
   show isq X * 2 ^ 2 + 0≤_
   omega
  ·have q2 : ¬ isq Y * isq Y = Y:=by
    intro hc
    apply q
    have:=(Zgy X).1
    rw [e] at this ⊢
    omega
   rw [decide_eq_false q,decide_eq_false q2,e]
   exact Nat.le_refl _
theorem Ztf (F : Fm) {m : Int} (m1 : 1≤m) (m2 : m≤5) {d : Dy} (hn : d.n = false) : (rndW F m d).1 = rndS F m d∧rndS F m d≤F.i0:=by
 obtain ⟨s,n,e1,hs,es,sz,sn⟩:=ZwW F m1 m2 d
 have : n = false:=by
  by_cases h : d.m = 0
  ·exact (sz h).2
  ·rw [sn h,hn]
 subst this
 rw [← es]
 exact ⟨e1,hs⟩
theorem ZzV (F : Fm) {md : Int} (m1 : 1≤md) (m2 : md≤5) {a b : Dy} (ha : a.n = false) (hb : b.n = false) (h : cmpD a b≤0) : (rtW F md a).1≤(rtW F md b).1:=by
 unfold rtW
 by_cases a0 : a.m = 0
 ·rw [if_pos a0]; exact Nat.zero_le _
 rw [if_neg a0]
 have hP1 : rootP a.e = 130 + (a.e % 2).toNat:=rfl
 have hP2 : rootP b.e = 130 + (b.e % 2).toNat:=rfl
 obtain ⟨E,hE⟩ : ∃ E : Int,E = min ((a.e - (rootP a.e : Nat)) / 2) ((b.e - (rootP b.e : Nat)) / 2):=⟨_,rfl⟩
 obtain ⟨i,hi⟩ : ∃ i : Nat,(i : Int) = (a.e - (rootP a.e : Nat)) / 2 - E:=⟨((a.e - (rootP a.e : Nat)) / 2 - E).toNat,by omega⟩
 obtain ⟨j,hj⟩ : ∃ j : Nat,(j : Int) = (b.e - (rootP b.e : Nat)) / 2 - E:=⟨((b.e - (rootP b.e : Nat)) / 2 - E).toNat,by omega⟩
 have la : 2 * E≤a.e:=by omega
 have lb : 2 * E≤b.e:=by omega
 rw [Zpo (L:=2 * E) (Or.inr la) (Or.inr lb)] at h
 have hle : iv a (2 * E)≤iv b (2 * E):=by
  unfold sgI at h
  split at h
  ·omega
  ·split at h <;> omega
 unfold iv at hle
 rw [ha,hb] at hle
 simp only [Bool.false_eq_true,if_false,Int.one_mul] at hle
 rw [show (a.e - 2 * E).toNat = rootP a.e + 2 * i by omega,show (b.e - 2 * E).toNat = rootP b.e + 2 * j by omega] at hle
 have hXY : a.m * 2 ^ (rootP a.e + 2 * i)≤b.m * 2 ^ (rootP b.e + 2 * j):=by omega
 have b0 : b.m≠0:=by
  intro hc
  rw [hc,Nat.zero_mul] at hXY
  have:=Nat.mul_pos (Nat.pos_of_ne_zero a0) (Nat.two_pow_pos (rootP a.e + 2 * i))
  omega
 rw [if_neg b0,Zpb F md a a0 i,Zpb F md b b0 j]
 rw [show (a.e - (rootP a.e : Nat)) / 2 - (i : Int) = E by omega,show (b.e - (rootP b.e : Nat)) / 2 - (j : Int) = E by omega]
 have bl : ∀ {d : Dy} (k : Nat),d.m≠0→64 < blen (isq (d.m * 2 ^ (rootP d.e + 2 * k))):=fun {d} k h0 => by
  have hP : rootP d.e = 130 + (d.e % 2).toNat:=rfl
  have hbp:=ZcV h0
  have hbm:=Zav h0 (rootP d.e + 2 * k)
  refine ZgX (k:=64) (M:=d.m * 2 ^ (rootP d.e + 2 * k)) ?_ (Zgy _).2
  have:=ZbD (n:=d.m * 2 ^ (rootP d.e + 2 * k)) (by intro hc; rw [hc,Zag] at hbm; omega)
  rw [← Nat.pow_add]
  exact Nat.le_trans (Nat.pow_le_pow_right (by decide) (by omega)) this
 have hF:=ZsB F
 have l1:=bl i a0
 have l2:=bl j b0
 rw [ZzZ F md _ E (by omega),ZzZ F md _ E (by omega)]
 have hst:=ZvL hXY
 generalize a.m * 2 ^ (rootP a.e + 2 * i) = X at *
 generalize b.m * 2 ^ (rootP b.e + 2 * j) = Y at *
 generalize hA : isq X * 2 ^ 2 + (!decide (isq X * isq X = X)).toNat = A at *
 generalize hB : isq Y * 2 ^ 2 + (!decide (isq Y * isq Y = Y)).toNat = B at *
 have A0 : A≠0:=by
  intro hc
  have : isq X = 0:=by omega
  rw [this,Zag] at l1; omega
 have B0 : B≠0:=by omega
 have ff : ∀ (m : Nat) (e : Int),(mkD false m e).n = false:=fun m e => by unfold mkD; split <;> rfl
 rw [(Ztf F m1 m2 (ff A (E - 2))).1,(Ztf F m1 m2 (ff B (E - 2))).1]
 obtain ⟨L,hL⟩ : ∃ L : Int,L = min F.low (E - 2) - 1:=⟨_,rfl⟩
 have tA:=Zal (n:=false) A0 (E - 2)
 have tB:=Zal (n:=false) B0 (E - 2)
 refine ZzQ F md (a:=mkD false B (E - 2)) (b:=mkD false A (E - 2)) (ZlH B0 _) (ZlH A0 _) (by rw [ff,ff]) (L:=L) (by rw [tB]; simp only; omega) (by rw [tA]; simp only; omega) (by omega) ?_
 rw [ZsJ A0 (by omega),ZsJ B0 (by omega)]
 exact Nat.mul_le_mul_right _ hst
theorem ZuB (F : Fm) {md : Int} (m1 : 1≤md) (m2 : md≤5) {a : Dy} (ha : a.n = false) : (rtW F md a).1≤F.inf false:=by
 unfold rtW
 by_cases a0 : a.m = 0
 ·rw [if_pos a0]; exact Nat.zero_le _
 ·rw [if_neg a0,Zpb F md a a0 0]
  have hF:=ZsB F
  have hP : rootP a.e = 130 + (a.e % 2).toNat:=rfl
  have hbp:=ZcV a0
  have hbm:=Zav a0 (rootP a.e + 2 * 0)
  have hl : 64 < blen (isq (a.m * 2 ^ (rootP a.e + 2 * 0))):=ZgX (k:=64) (M:=a.m * 2 ^ (rootP a.e + 2 * 0)) (by
   have:=ZbD (n:=a.m * 2 ^ (rootP a.e + 2 * 0)) (by intro hc; rw [hc,Zag] at hbm; omega)
   rw [← Nat.pow_add]
   exact Nat.le_trans (Nat.pow_le_pow_right (by decide) (by omega)) this) (Zgy _).2
  rw [ZzZ F md _ _ (by omega)]
  generalize isq (a.m * 2 ^ (rootP a.e + 2 * 0)) * 2 ^ 2 + _ = A
  have ff : (mkD false A ((a.e - (rootP a.e : Nat)) / 2 - ((0 : Nat) : Int) - 2)).n = false:=by unfold mkD; split <;> rfl
  obtain ⟨h1,h2⟩:=Ztf F m1 m2 ff
  rw [h1,ZtZ]
  exact Nat.le_trans h2 (Nat.le_add_right _ _)
theorem goes (F : Fm) {md : Int} (m1 : 1≤md) (m2 : md≤5) (a b c d : Nat) :
  (cmpZ F a b c d = 4∧cmpZ F c d a b = 4∧((absZ F md a b).1 = F.nan∨(absZ F md c d).1 = F.nan)) ∨
  (cmpZ F a b c d = 2∧cmpZ F c d a b = 2∧(absZ F md a b).1 = (absZ F md c d).1) ∨
  (cmpZ F a b c d = 1∧cmpZ F c d a b = 3∧(absZ F md a b).1≤(absZ F md c d).1) ∨
  (cmpZ F a b c d = 3∧cmpZ F c d a b = 1∧(absZ F md c d).1≤(absZ F md a b).1):=by
 have p1:=Zxg F a b
 have p2:=Zxg F c d
 have i1:=ZuB F m1 m2 p1
 have i2:=ZuB F m1 m2 p2
 have hs:=ZEp (sqD F a b) (sqD F c d)
 have hv:=ZpA (sqD F a b) (sqD F c d)
 have u1:=ZzV F m1 m2 p1 p2
 have u2:=ZzV F m1 m2 p2 p1
 unfold cmpZ absZ toldW
 generalize zcl (F.cls a) (F.cls b) = x at *
 generalize zcl (F.cls c) (F.cls d) = y at *
 generalize rtW F md (sqD F a b) = R1 at *
 generalize rtW F md (sqD F c d) = R2 at *
 generalize cmpD (sqD F a b) (sqD F c d) = q at *
 generalize cmpD (sqD F c d) (sqD F a b) = q' at *
 by_cases q4 : x = 4∨y = 4
 ·left
  rw [if_pos q4,if_pos (show y = 4∨x = 4 by omega)]
  refine ⟨rfl,rfl,?_⟩
  rcases q4 with h | h
  ·left; rw [if_neg (by omega),if_pos h]
  ·right; rw [if_neg (by omega),if_pos h]
 ·right
  rw [if_neg q4,if_neg (show ¬ (y = 4∨x = 4) by omega)]
  by_cases x3 : x = 3
  ·by_cases y3 : y = 3
   ·left
    rw [if_pos (show x = 3∧y = 3 from ⟨x3,y3⟩),if_pos (show y = 3∧x = 3 from ⟨y3,x3⟩),if_pos x3,if_pos y3]
    exact ⟨rfl,rfl,rfl⟩
   ·right; right
    rw [if_neg (show ¬ (x = 3∧y = 3) from fun h => y3 h.2),if_neg (show ¬ (y = 3∧x = 3) from fun h => y3 h.1),if_pos x3,if_pos x3,if_neg y3,if_pos x3,if_neg y3,if_neg (show ¬ y = 4 by omega)]
    exact ⟨rfl,rfl,i2⟩
  ·by_cases y3 : y = 3
   ·right; left
    rw [if_neg (show ¬ (x = 3∧y = 3) from fun h => x3 h.1),if_neg (show ¬ (y = 3∧x = 3) from fun h => x3 h.2),if_neg x3,if_pos y3,if_pos y3,if_neg x3,if_neg (show ¬ x = 4 by omega),if_pos y3]
    exact ⟨rfl,rfl,i1⟩
   ·rw [if_neg (show ¬ (x = 3∧y = 3) from fun h => x3 h.1),if_neg (show ¬ (y = 3∧x = 3) from fun h => x3 h.2),if_neg x3,if_neg y3,if_neg y3,if_neg x3,if_neg x3,if_neg (show ¬ x = 4 by omega),if_neg y3,if_neg (show ¬ y = 4 by omega)]
    rcases hv with h | h | h
    ·right; left; exact ⟨by omega,by omega,u1 (by omega)⟩
    ·left; exact ⟨by omega,by omega,Nat.le_antisymm (u1 (by omega)) (u2 (by omega))⟩
    ·right; right; exact ⟨by omega,by omega,u2 (by omega)⟩
theorem ZAC (F : Fm) (n : Bool) {k : Nat} {u : Int} (hk0 : k≠0) (hk1 : k < 2 ^ (F.fr + 1)) (hu : F.low≤u) (hku : u = F.low∨2 ^ F.fr≤k) (hs : F.enc k u < F.i0) : F.val (F.enc k u + F.sgn n) = mkD n k u:=by
 have hi:=ZgS F
 obtain ⟨e1,e2⟩:=ZeA n (by omega : F.enc k u < F.sg)
 have hp:=Nat.two_pow_pos F.fr
 rw [Nat.pow_succ] at hk1
 unfold Fm.val Fm.ex Fm.fc
 rw [e1,e2]
 rcases Nat.lt_or_ge k (2 ^ F.fr) with h | h
 ·have hul : u = F.low:=by
   rcases hku with q | q
   ·exact q
   ·omega
  have hE : F.enc k u = k:=by unfold Fm.enc; rw [hul,Int.sub_self]; simp
  rw [hE,Nat.div_eq_of_lt h,if_pos rfl,Nat.mod_eq_of_lt h,hul]
 ·have hE : F.enc k u = (k - 2 ^ F.fr) + 2 ^ F.fr * ((u - F.low).toNat + 1):=by
   unfold Fm.enc; rw [Nat.mul_add,Nat.mul_one,Nat.mul_comm]; omega
  have hlt : k - 2 ^ F.fr < 2 ^ F.fr:=by omega
  have hd : F.enc k u / 2 ^ F.fr = (u - F.low).toNat + 1:=by
   rw [hE,Nat.add_mul_div_left _ _ hp,Nat.div_eq_of_lt hlt,Nat.zero_add]
  have hm : F.enc k u % 2 ^ F.fr = k - 2 ^ F.fr:=by
   rw [hE,Nat.add_mul_mod_self_left,Nat.mod_eq_of_lt hlt]
  rw [hd,hm,if_neg (by omega),show 2 ^ F.fr + (k - 2 ^ F.fr) = k by omega]
  congr 1
  omega
theorem ZpF (F : Fm) {w : Nat} (hf : F.fin w) (h0 : (F.val w).m≠0) : F.fits (F.val w):=by
 have hF:=ZbH F
 have hwd : F.low + F.fr + F.most - 1 = F.wide:=by cases F <;> decide
 have hy : F.fc w < 2 ^ F.fr:=Nat.mod_lt _ (Nat.two_pow_pos _)
 unfold Fm.fin at hf
 unfold Fm.val at h0 ⊢
 by_cases hx : F.ex w = 0
 ·rw [if_pos hx] at h0 ⊢
  have hk : F.fc w≠0:=by intro hc; rw [hc] at h0; exact h0 rfl
  have hb:=Zaf.2 hy
  exact ZmB hk (by rw [Nat.pow_succ]; omega) (Int.le_refl _) (by omega)
 ·rw [if_neg hx] at h0 ⊢
  have hk : 2 ^ F.fr + F.fc w≠0:=by have:=Nat.two_pow_pos F.fr; omega
  have hb : blen (2 ^ F.fr + F.fc w)≤F.fr + 1:=Zaf.2 (by rw [Nat.pow_succ]; omega)
  exact ZmB hk (by rw [Nat.pow_succ]; omega) (by omega) (by omega)
theorem ZCY {F : Fm} {w : Nat} (hf : F.fin w) : LoE (F.vl w) F.low:=by
 by_cases h : (F.vl w).m = 0
 ·exact Or.inl h
 ·right; rw [Zdx hf] at h ⊢; exact (ZpF F hf h).2.2.1
theorem ZvH (F : Fm) (n : Bool) : F.sgn n < 2 * F.sg∧F.fin (F.sgn n)∧F.vl (F.sgn n) = ⟨false,0,0⟩:=by
 have hi:=ZgS F
 have h:=Zjd (F:=F) (s:=0) n hi.2.1
 have h2:=Zxq F n
 rw [Nat.zero_add] at h h2
 exact ⟨by unfold Fm.sgn; split <;> omega,h,by rw [Zdx h,h2]⟩
theorem ZAM (F : Fm) (md : Int) {c c' : Int} {n n' : Bool} {d d' : Dy} (h1 : c = 1∨c = 2∨c = 3) (h2 : c' = 1∨c' = 2∨c' = 3) :
  addP F md c n d c' n' d' = if c = 1∧c' = 1∧n = n' then (F.sgn n,0) else sumW F md (addD d d'):=by
 unfold addP
 rw [if_neg (by omega),if_neg (by omega),if_neg (by omega),if_neg (by omega)]
theorem Zss {F : Fm} {w : Nat} (hw : w < 2 * F.sg) (hf : F.fin w) : F.cls w = 1↔(F.vl w).m = 0:=by
 rw [Zdx hf]
 constructor
 ·intro h; rw [(Zms hw h).2]
 ·intro h
  have h1:=fun q => ZvP hw q hf
  exact Decidable.byContradiction fun q => h1 q h
theorem ZBV (F : Fm) (md : Int) {c c' : Int} {n n' : Bool} {d d' : Dy} (h1 : c = 1∨c = 2∨c = 3) (h2 : c' = 1∨c' = 2∨c' = 3) :
  mulP F md c n d c' n' d' = if c = 1∨c' = 1 then (F.sgn (n != n'),0) else sumW F md (mulD d d'):=by
 unfold mulP
 rw [if_neg (by omega),if_neg (by omega),if_neg (by omega)]
theorem ZHK {a b : Dy} (ha : Nz a) (hb : Nz b) (h1 : a.m≠0) (h2 : b.m≠0) : mulD a b = ⟨a.n != b.n,a.m * b.m,a.e + b.e⟩:=by
 unfold mulD; exact ZsI (ZFg (ha.2 h1) (hb.2 h2))
theorem ZDo {a b : Dy} {K L : Int} (ha : LoE a K) (hb : LoE b L) : iv (mulD a b) (K + L) = iv a K * iv b L∧LoE (mulD a b) (K + L):=by
 by_cases h1 : a.m = 0
 ·have : mulD a b = ⟨false,0,0⟩:=ZlL (Or.inl h1)
  rw [this,ZcG rfl,ZcG h1,Int.zero_mul]; exact ⟨rfl,Or.inl rfl⟩
 ·by_cases h2 : b.m = 0
  ·have : mulD a b = ⟨false,0,0⟩:=ZlL (Or.inr h2)
   rw [this,ZcG rfl,ZcG h2,Int.mul_zero]; exact ⟨rfl,Or.inl rfl⟩
  ·have la:=ha.resolve_left h1
   have lb:=hb.resolve_left h2
   refine ⟨?_,ZmT (by omega)⟩
   unfold mulD
   rw [ZrA (by omega),show (a.e + b.e - (K + L)).toNat = (a.e - K).toNat + (b.e - L).toNat by omega,Nat.pow_add]
   unfold iv
   have e : a.m * b.m * (2 ^ (a.e - K).toNat * 2 ^ (b.e - L).toNat) = (a.m * 2 ^ (a.e - K).toNat) * (b.m * 2 ^ (b.e - L).toNat):=by
    simp only [Nat.mul_assoc,Nat.mul_left_comm,Nat.mul_comm]
   rw [e,Int.natCast_mul]
   generalize ((a.m * 2 ^ (a.e - K).toNat : Nat) : Int) = x
   generalize ((b.m * 2 ^ (b.e - L).toNat : Nat) : Int) = y
   cases a.n <;> cases b.n <;> simp [Int.neg_mul,Int.mul_neg]
theorem ZBU (a b : Dy) : mulD a (negD b) = negD (mulD a b):=by
 by_cases h1 : a.m = 0
 ·rw [ZlL (Or.inl h1),ZlL (Or.inl h1)]; rfl
 ·by_cases h2 : b.m = 0
  ·rw [ZlL (Or.inr h2),ZlL (Or.inr (by unfold negD; rw [if_pos h2]; exact h2))]; rfl
  ·have h3 : a.m * b.m≠0:=by have:=Nat.mul_pos (Nat.pos_of_ne_zero h1) (Nat.pos_of_ne_zero h2); omega
   have e1 : negD b = ⟨!b.n,b.m,b.e⟩:=by unfold negD; rw [if_neg h2]
   unfold mulD
   rw [e1]
   simp only
   have e2:=ZlH (n:=a.n != b.n) h3 (a.e + b.e)
   unfold negD
   rw [if_neg e2,Zal h3,Zal h3]
   cases a.n <;> cases b.n <;> rfl
theorem ZzY (F : Fm) (md : Int) (neg : Bool) {Q : Nat} (lost : Bool) (E : Int) (hq : F.fr + 2≤blen Q) :
  ∃ (K kk : Nat) (u : Int),0 < kk∧u = E + kk∧F.low≤u∧K = Q / 2 ^ kk + (upB md neg (decide (Q / 2 ^ kk % 2 = 1)) (halfN Q kk) (moreN Q lost kk)).toNat∧magN F (F.enc K u) = K * 2 ^ (u - F.low).toNat ∧
   ((F.i0≤F.enc K u∧(sW F md neg Q lost E).1 = ovr F md neg)∨(F.enc K u < F.i0∧(sW F md neg Q lost E).1 = F.enc K u + F.sgn neg)):=by
 have hF:=ZbH F
 unfold sW
 obtain ⟨u,hu⟩ : ∃ u,u = F.eOf (E + blen Q):=⟨_,rfl⟩
 have hue : u = max (E + blen Q - F.fr - 1) F.low:=hu
 rw [← hu]
 obtain ⟨kk,hkk⟩ : ∃ kk,kk = (u - E).toNat:=⟨_,rfl⟩
 rw [← hkk]
 have k0 : 0 < kk:=by omega
 have hK : (rdN md neg Q lost kk).1 = Q / 2 ^ kk + (upB md neg (decide (Q / 2 ^ kk % 2 = 1)) (halfN Q kk) (moreN Q lost kk)).toNat:=rfl
 have hbt : ∀ b : Bool,b.toNat≤1:=fun b => by cases b <;> decide
 have hbd : (rdN md neg Q lost kk).1≤2 ^ (F.fr + 1):=by
  rw [hK]
  have hb1 : blen (Q / 2 ^ kk)≤F.fr + 1:=by rw [Zaj]; omega
  have:=Zaf.1 hb1
  have:=hbt (upB md neg (decide (Q / 2 ^ kk % 2 = 1)) (halfN Q kk) (moreN Q lost kk))
  omega
 have hlo2 : u = F.low∨2 ^ F.fr≤(rdN md neg Q lost kk).1:=by
  by_cases q : u = F.low
  ·exact Or.inl q
  ·right
   have : 2 ^ F.fr≤Q / 2 ^ kk:=Zbn.1 (by rw [Zaj]; omega)
   rw [hK]; omega
 have hbig:=Zqp F (n:=(rdN md neg Q lost kk).1) (u:=u) hbd (by omega) hlo2
 refine ⟨(rdN md neg Q lost kk).1,kk,u,k0,by omega,by omega,hK,ZsG F hbd (by omega) hlo2,?_⟩
 unfold wordOf
 by_cases ov : F.wide < blen (rdN md neg Q lost kk).1 + u
 ·left; rw [if_pos ov]; exact ⟨hbig.1 ov,rfl⟩
 ·right; rw [if_neg ov]
  refine ⟨?_,rfl⟩
  rcases Nat.lt_or_ge (F.enc (rdN md neg Q lost kk).1 u) F.i0 with q | q
  ·exact q
  ·exact absurd (hbig.2 q) ov
theorem units {K kk : Nat} {u E low L : Int} (h1 : u = E + kk) (h2 : L≤E) (h3 : low≤u) (h4 : L≤low) : K * 2 ^ (u - low).toNat * 2 ^ (low - L).toNat = K * 2 ^ kk * 2 ^ (E - L).toNat:=by
 rw [Nat.mul_assoc,← Nat.pow_add,Nat.mul_assoc,← Nat.pow_add]; congr 2; omega
theorem ZIk (F : Fm) {Q : Nat} (lost : Bool) (E : Int) (hq : F.fr + 2≤blen Q) {L : Int} (l1 : L≤F.low) (l2 : L≤E) :
  (sW F 4 false Q lost E).1 < 2 * F.sg∧(F.cls (sW F 4 false Q lost E).1 = 4∨(F.fin (sW F 4 false Q lost E).1∧(((Q + lost.toNat) * 2 ^ (E - L).toNat : Nat) : Int)≤iv (F.val (sW F 4 false Q lost E).1) L∧LoE (F.val (sW F 4 false Q lost E).1) L)):=by
 have hi:=ZgS F
 obtain ⟨K,kk,u,k0,hu,hlo,hK,hm,h⟩:=ZzY F 4 false lost E hq
 have hup : upB 4 false (decide (Q / 2 ^ kk % 2 = 1)) (halfN Q kk) (moreN Q lost kk) = (halfN Q kk || moreN Q lost kk):=by simp [upB]
 rw [hup] at hK
 obtain ⟨q1,q2,q3⟩:=ZlD Q k0
 have hd:=Nat.div_add_mod Q (2 ^ kk)
 have hml:=Nat.mod_lt Q (Nat.two_pow_pos kk)
 have hKQ : Q + lost.toNat≤K * 2 ^ kk:=by
  rw [hK,Nat.add_mul,Nat.mul_comm]
  have hlb : lost.toNat≤1:=by cases lost <;> decide
  by_cases hb : (halfN Q kk || moreN Q lost kk) = true
  ·rw [hb]; simp only [Bool.toNat_true,Nat.one_mul]; omega
  ·simp only [Bool.not_eq_true] at hb
   rw [hb]
   simp only [Bool.or_eq_false_iff,moreN,decide_eq_false_iff_not,ne_eq,Decidable.not_not] at hb
   rw [hb.1,hb.2.2] at q1
   rw [hb.2.1]
   simp only [Bool.toNat_false,Nat.zero_mul,Nat.add_zero]
   simp only [Bool.false_eq_true,if_false] at q1
   omega
 rcases h with ⟨h1,h2⟩ | ⟨h1,h2⟩
 ·have e : ovr F 4 false = F.inf false:=by unfold ovr; rw [if_neg (by simp)]
  rw [h2,e]
  refine ⟨?_,Or.inl (Zqf F false)⟩
  cases F <;> decide
 ·rw [h2]
  obtain ⟨v1,v2⟩:=ZwA (F:=F) false h1 l1
  refine ⟨by unfold Fm.sgn; simp only [Bool.false_eq_true,if_false]; omega,Or.inr ⟨Zjd false h1,?_,v2⟩⟩
  rw [v1,hm,units hu l2 hlo l1]
  simp only [Bool.false_eq_true,if_false,Int.one_mul]
  exact Int.ofNat_le.2 (Nat.mul_le_mul_right _ hKQ)
theorem ZKn (F : Fm) {d : Dy} (hn : d.n = false) : (rtW F 4 d).1 < 2 * F.sg∧(F.cls (rtW F 4 d).1 = 4∨(F.fin (rtW F 4 d).1∧∀ L,L≤F.low→2 * L≤d.e - 200→0≤iv (F.vl (rtW F 4 d).1) L∧LoE (F.vl (rtW F 4 d).1) L∧iv d (2 * L)≤iv (F.vl (rtW F 4 d).1) L * iv (F.vl (rtW F 4 d).1) L)):=by
 unfold rtW
 by_cases h0 : d.m = 0
 ·rw [if_pos h0]
  obtain ⟨s1,s2,s3⟩:=ZvH F false
  refine ⟨s1,Or.inr ⟨s2,fun L l1 l2 => ?_⟩⟩
  have e : F.vl ((0,0) : Nat × Nat).1 = ⟨false,0,0⟩:=s3
  rw [e,ZcG rfl,ZcG h0]
  exact ⟨Int.le_refl _,Or.inl rfl,by decide⟩
 ·rw [if_neg h0]
  unfold rootW
  obtain ⟨r1,r2⟩:=Zgy (d.m * 2 ^ rootP d.e)
  have hP : rootP d.e = 130 + (d.e % 2).toNat:=rfl
  have hbp:=ZcV h0
  have hbm:=Zav h0 (rootP d.e)
  have hbt : 64 < blen (isq (d.m * 2 ^ rootP d.e)):=ZgX (k:=64) (M:=d.m * 2 ^ rootP d.e) (by
   have:=ZbD (n:=d.m * 2 ^ rootP d.e) (by intro hc; rw [hc,Zag] at hbm; omega)
   rw [← Nat.pow_add]
   exact Nat.le_trans (Nat.pow_le_pow_right (by decide) (by omega)) this) r2
  have hF:=ZsB F
  have hE : (d.e - (rootP d.e : Nat)) / 2 * 2 = d.e - (rootP d.e : Nat):=by omega
  obtain ⟨lost,hl⟩ : ∃ l,l = (!decide (isq (d.m * 2 ^ rootP d.e) * isq (d.m * 2 ^ rootP d.e) = d.m * 2 ^ rootP d.e)):=⟨_,rfl⟩
  rw [← hl]
  have hr : d.m * 2 ^ rootP d.e≤(isq (d.m * 2 ^ rootP d.e) + lost.toNat) * (isq (d.m * 2 ^ rootP d.e) + lost.toNat):=by
   by_cases q : isq (d.m * 2 ^ rootP d.e) * isq (d.m * 2 ^ rootP d.e) = d.m * 2 ^ rootP d.e
   ·rw [hl,decide_eq_true q]; simp only [Bool.not_true,Bool.toNat_false,Nat.add_zero]; omega
   ·rw [hl,decide_eq_false q]; simp only [Bool.not_false,Bool.toNat_true]; omega
  clear hl
  have g0:=ZIk F (Q:=isq (d.m * 2 ^ rootP d.e)) lost ((d.e - (rootP d.e : Nat)) / 2) (by omega) (L:=min F.low ((d.e - (rootP d.e : Nat)) / 2)) (by omega) (by omega)
  refine ⟨g0.1,?_⟩
  rcases g0.2 with g1 | ⟨g1,_,_⟩
  ·exact Or.inl g1
  refine Or.inr ⟨g1,fun L l1 l2 => ?_⟩
  obtain ⟨_,g2⟩:=ZIk F (Q:=isq (d.m * 2 ^ rootP d.e)) lost ((d.e - (rootP d.e : Nat)) / 2) (by omega) (L:=L) (by omega) (by omega)
  rcases g2 with g2 | ⟨_,g3,g4⟩
  ·have:=Zbu.1 g1; omega
  rw [Zdx g1]
  have hd : iv d (2 * L) = ((d.m * 2 ^ rootP d.e * (2 ^ ((d.e - (rootP d.e : Nat)) / 2 - L).toNat * 2 ^ ((d.e - (rootP d.e : Nat)) / 2 - L).toNat) : Nat) : Int):=by
   unfold iv; rw [hn]
   simp only [Bool.false_eq_true,if_false,Int.one_mul]
   rw [Nat.mul_assoc,← Nat.pow_add,← Nat.pow_add]
   congr 3; omega
  rw [hd]
  generalize isq (d.m * 2 ^ rootP d.e) + lost.toNat = r at *
  generalize d.m * 2 ^ rootP d.e = X at *
  generalize 2 ^ ((d.e - (rootP d.e : Nat)) / 2 - L).toNat = U at *
  refine ⟨Int.le_trans (Int.natCast_nonneg _) g3,g4,Int.le_trans ?_ (Int.mul_le_mul g3 g3 (Int.natCast_nonneg _) (Int.le_trans (Int.natCast_nonneg _) g3))⟩
  rw [← Int.natCast_mul]
  refine Int.ofNat_le.2 ?_
  rw [show r * U * (r * U) = r * r * (U * U) by simp only [Nat.mul_assoc,Nat.mul_left_comm,Nat.mul_comm]]
  exact Nat.mul_le_mul_right _ hr
theorem ZIz (x : Int) : 0≤x * x:=by
 rcases Int.le_total 0 x with h | h
 ·exact Int.mul_nonneg h h
 ·have:=Int.mul_nonneg (Int.neg_nonneg.2 h) (Int.neg_nonneg.2 h)
  rwa [Int.neg_mul_neg] at this
theorem ZGk {F : Fm} {md : Int} {neg o h m : Bool} (hm : 1≤md∧md≤5) (hu : upB md neg o h m = true) : ovs F md neg = F.i0:=by
 unfold ovs
 rw [if_neg]
 rintro (r | ⟨r,n⟩ | ⟨r,n⟩) <;> subst r <;> simp [upB] at hu
 ·rw [n] at hu; simp at hu
 ·rw [n] at hu; simp at hu
theorem ZFI (F : Fm) (neg : Bool) {Q : Nat} (more : Bool) (E : Int) (hQ : F.fr + 2≤blen Q) : ∃ (s0 : Nat) (o h m : Bool),∀ md,1≤md∧md≤5 →
  (sW F md neg Q more E).1 = (if s0 < F.i0 then s0 + (upB md neg o h m).toNat else ovs F md neg) + F.sgn neg:=by
 obtain ⟨u,hu⟩ : ∃ u,u = F.eOf (E + blen Q):=⟨_,rfl⟩
 have hue : u = max (E + blen Q - F.fr - 1) F.low:=hu
 obtain ⟨k,hk⟩ : ∃ k,k = (u - E).toNat:=⟨_,rfl⟩
 have k0 : 0 < k:=by omega
 have hb1 : blen (Q / 2 ^ k)≤F.fr + 1:=by rw [Zaj]; omega
 have hb2:=Zaf.1 hb1
 refine ⟨F.enc (Q / 2 ^ k) u,decide (Q / 2 ^ k % 2 = 1),halfN Q k,moreN Q more k,fun md hm => ?_⟩
 unfold sW
 rw [← hu,← hk]
 have hn : (rdN md neg Q more k).1 = Q / 2 ^ k + (upB md neg (decide (Q / 2 ^ k % 2 = 1)) (halfN Q k) (moreN Q more k)).toNat:=rfl
 generalize (rdN md neg Q more (blen Q - F.fr - 1)).1 = fine
 generalize (rdN md neg Q more k).2 = ex
 rw [hn]
 obtain ⟨n0,hn0⟩ : ∃ n0,n0 = Q / 2 ^ k:=⟨_,rfl⟩
 rw [← hn0] at hb1 hb2 ⊢
 have hlo : u = F.low∨2 ^ F.fr≤n0:=by
  by_cases q : u = F.low
  ·exact Or.inl q
  ·right; rw [hn0]; exact Zbn.1 (by rw [Zaj]; omega)
 generalize hU : upB md neg (decide (n0 % 2 = 1)) (halfN Q k) (moreN Q more k) = U
 have hUn : U.toNat≤1:=by cases U <;> decide
 have hb:=Zqp F (n:=n0 + U.toNat) (u:=u) (by omega) (by omega) (by omega)
 have he : F.enc (n0 + U.toNat) u = F.enc n0 u + U.toNat:=by cases U <;> rfl
 rw [he] at hb
 unfold wordOf
 by_cases hs : F.enc n0 u < F.i0
 ·rw [if_pos hs]
  by_cases hw : F.wide < blen (n0 + U.toNat) + u
  ·rw [if_pos hw,ZwM]
   have h1:=hb.1 hw
   have hUt : U = true:=by cases U with | true => rfl | false => exfalso; simp at h1; omega
   subst hUt
   rw [ZGk hm hU]
   simp at h1 ⊢
   omega
  ·rw [if_neg hw,he]
 ·rw [if_neg hs,if_pos (hb.2 (by omega)),ZwM]
def plz (F : Fm) (neg : Bool) (s : Nat) : Int:=if neg then -(s : Int) else s
theorem Zpi (F : Fm) {md : Int} (hm : 1≤md∧md≤5) (neg o h m : Bool) (s0 : Nat) :
  let z:=fun md => (if s0 < F.i0 then s0 + (upB md neg o h m).toNat else ovs F md neg)
  plz F neg (z 5)≤plz F neg (z md)∧plz F neg (z md)≤plz F neg (z 4)∧plz F neg (z 4)≤plz F neg (z 5) + 1∧z md≤F.i0:=by
 have hi:=ZgS F
 have hmd : md = 1∨md = 2∨md = 3∨md = 4∨md = 5:=by omega
 simp only
 by_cases hs : s0 < F.i0
 ·simp only [if_pos hs]
  rcases hmd with r | r | r | r | r <;> subst r <;> cases neg <;> cases o <;> cases h <;> cases m <;> simp [upB,plz] <;> omega
 ·simp only [if_neg hs]
  rcases hmd with r | r | r | r | r <;> subst r <;> cases neg <;> simp [ovs,plz] <;> omega
theorem ZCf (F : Fm) {a b : Dy} (h0 : a.m≠0) (h1 : b.m≠0) : ∃ (s0 : Nat) (o h m : Bool),∀ md,1≤md∧md≤5 →
  (quoW F md a b).1 = (if s0 < F.i0 then s0 + (upB md (a.n != b.n) o h m).toNat else ovs F md (a.n != b.n)) + F.sgn (a.n != b.n):=by
 have hF:=ZbH F
 have hqb:=ZmD (k:=64) h0 h1
 exact ZFI F (a.n != b.n) _ _ (by omega)
theorem ZFq (F : Fm) (neg : Bool) {s : Nat} (h : s≤F.i0) : (if F.ng (s + F.sgn neg) then -(((s + F.sgn neg) % F.sg : Nat) : Int) else (((s + F.sgn neg) % F.sg : Nat) : Int)) = plz F neg s∧s + F.sgn neg < 2 * F.sg∧F.cls (s + F.sgn neg)≠5:=by
 have hi:=ZgS F
 obtain ⟨q1,q2⟩:=ZeA (F:=F) (s:=s) neg (by omega)
 refine ⟨?_,?_,(Zsr neg h).2.2⟩
 ·rw [q1,q2]; unfold plz; cases neg <;> rfl
 ·unfold Fm.sgn; split <;> omega
theorem ZvM (F : Fm) {m : Int} (hm : 1≤m∧m≤5) (d : Dy) : (sumW F m d).1 < 2 * F.sg:=by
 have hi:=ZgS F
 unfold sumW; split
 ·unfold Fm.sgn; simp only; split <;> omega
 ·obtain ⟨s,n,e,h1,_⟩:=ZwW F hm.1 hm.2 d
  rw [e]; exact ZGn n h1
end Go.Cv
