/-
 A part of the proof of the statements of this seat (texts that the law's own text leans on): no condition.
-/
import Derived.Test.YtddmoldiopnifaaGreatDoorM15
import Derived.Test.YtddmoldiopnifaaGreatDoorM6
set_option linter.unusedVariables false
set_option linter.unusedSimpArgs false
namespace Go.Cv
variable {G : Nat→Option (List AV)} {T : Tbl} {g : Nat}
def smS (F : Fm) (a b c d : Nat) : Bool:=!decide (zcl (F.cls a) (F.cls b)≤2∧zcl (F.cls c) (F.cls d)≤2)
def bx (F : Fm) (a b : Nat) : (Int × Bool) × (Int × Bool):=(sd F a (decide (zcl (F.cls a) (F.cls b) = 3)),sd F b (decide (zcl (F.cls a) (F.cls b) = 3)))
def smP (F : Fm) (md : Int) (a b c d : Nat) : (Int × Bool) × (Int × Bool):=bxT md (bx F a b).1 (bx F a b).2 (bx F c d).1 (bx F c d).2
def smW (F : Fm) (md : Int) (a b c d : Nat) : (Nat × Nat) × (Nat × Nat) :=
 if zcl (F.cls a) (F.cls b)≤2∧zcl (F.cls c) (F.cls d)≤2 then ((0,0),(0,0))
 else if zcl (F.cls a) (F.cls b) = 4∨zcl (F.cls c) (F.cls d) = 4 then ((F.nan,0),(F.nan,0))
 else if zcl (F.cls a) (F.cls b) = 1∨zcl (F.cls c) (F.cls d) = 1 then ((F.nan,1),(F.nan,1))
 else ((sideW F (F.inf false) (smP F md a b c d).1,0),(sideW F (F.inf false) (smP F md a b c d).2,0))
theorem Zlg (F : Fm) (a b : Nat) : zcl (F.cls a) (F.cls b) = 1∨zcl (F.cls a) (F.cls b) = 2∨zcl (F.cls a) (F.cls b) = 3∨zcl (F.cls a) (F.cls b) = 4:=by
 unfold zcl; repeat' split
 all_goals omega
theorem Zpx (F : Fm) (n : Bool) : F.inf n < 2 * F.sg:=by cases F <;> cases n <;> decide
theorem bx_c (F : Fm) (a b : Nat) : SdC (bx F a b).1∧SdC (bx F a b).2:=⟨sd_c _ _ _,sd_c _ _ _⟩
theorem Zsx (x y : AV) (k : IntKind) : iaddrV 1 (.imm 2 [x,y]) (.int k 0) = some (.iptr [x,y] 0):=rfl
theorem Zsw (x y : AV) (k : IntKind) : iaddrV 1 (.imm 2 [x,y]) (.int k 1) = some (.iptr [x,y] 1):=rfl
set_option maxHeartbeats 8000000 in
theorem ZmL (J : Al G T g) (F : Fm) {md : Int} (hm : 1≤md∧md≤5) {a b c d : Nat} (ha : a < 2 * F.sg) (hb : b < 2 * F.sg) (hc : c < 2 * F.sg) (hd : d < 2 * F.sg) :
  run G T 268 [.int .u8 F.u,.int .u8 md,zA a b,zA c d] = some (.tup [zrA (smW F md a b c d).1 (smW F md a b c d).2,.bool (smS F a b c d),.int .i64 0]):=by
 rw [Zab G T J.J.ZmL]
 have o1:=Zsj J F hm ha hb hc hd
 have i1:=ZjG J F (n:=false)
 have n0:=ZiC J F (x:=0)
 have n1:=ZiC J F (x:=1)
 have b1:=ZgO J F (c:=zcl (F.cls a) (F.cls b)) ha hb
 have b2:=ZgO J F (c:=zcl (F.cls c) (F.cls d)) hc hd
 have t1:=Zfr J (md:=md) (bx_c F a b).1 (bx_c F a b).2 (bx_c F c d).1 (bx_c F c d).2
 have w1:=Zfc J F (Zpx F false) (p:=(smP F md a b c d).1) (q:=(smP F md a b c d).2)
 have ra:=Zlg F a b
 have rc:=Zlg F c d
 rw [show sd F a (decide (zcl (F.cls a) (F.cls b) = 3)) = (bx F a b).1 from rfl,show sd F b (decide (zcl (F.cls a) (F.cls b) = 3)) = (bx F a b).2 from rfl] at b1
 rw [show sd F c (decide (zcl (F.cls c) (F.cls d) = 3)) = (bx F c d).1 from rfl,show sd F d (decide (zcl (F.cls c) (F.cls d) = 3)) = (bx F c d).2 from rfl] at b2
 rw [show bxT md (bx F a b).1 (bx F a b).2 (bx F c d).1 (bx F c d).2 = smP F md a b c d from rfl] at t1
 unfold smW smS
 generalize smP F md a b c d = P at *
 generalize bx F a b = p at *
 generalize bx F c d = q at *
 generalize zcl (F.cls a) (F.cls b) = x at *
 generalize zcl (F.cls c) (F.cls d) = y at *
 by_cases k0 : x≤2∧y≤2
 ·obtain ⟨x2,y2⟩:=k0
  rw [if_pos ⟨x2,y2⟩,decide_eq_true (show x≤2∧y≤2 from ⟨x2,y2⟩)]
  simp only [zA,zrA,im2,cast0,Bool.not_true] at *
  repeat' (first|simp (maxSteps:=9^7) only [seval,exC,ZaA,Zic,ZeK,o1,Zsx,Zsw,rp_0,rp_1,i1,x2,y2]|simp (maxSteps:=9^7) (disch:=first|with_reducible assumption|omega) only [dxB]|(simp only [kdB];split)|(simp only [kvB];split))
 ·rw [if_neg k0,decide_eq_false k0]
  by_cases k4 : x = 4∨y = 4
  ·rw [if_pos k4]
   simp only [zA,zrA,im2,cast0,Bool.not_false] at *
   rcases k4 with rfl | rfl
   ·repeat' (first|simp (maxSteps:=9^7) only [seval,exC,ZaA,Zic,ZeK,o1,Zsx,Zsw,rp_0,rp_1,i1,n0]|simp (maxSteps:=9^7) (disch:=first|with_reducible assumption|omega) only [dxB]|(simp only [kdB];split)|(simp only [kvB];split))
   ·by_cases h4 : x = 4
    ·subst h4
     repeat' (first|simp (maxSteps:=9^7) only [seval,exC,ZaA,Zic,ZeK,o1,Zsx,Zsw,rp_0,rp_1,i1,n0]|simp (maxSteps:=9^7) (disch:=first|with_reducible assumption|omega) only [dxB]|(simp only [kdB];split)|(simp only [kvB];split))
    ·by_cases h2 : x≤2
     ·repeat' (first|simp (maxSteps:=9^7) only [seval,exC,ZaA,Zic,ZeK,o1,Zsx,Zsw,rp_0,rp_1,i1,h2,h4,n0]|simp (maxSteps:=9^7) (disch:=first|with_reducible assumption|omega) only [dxB]|(simp only [kdB];split)|(simp only [kvB];split))
     ·repeat' (first|simp (maxSteps:=9^7) only [seval,exC,ZaA,Zic,ZeK,o1,Zsx,Zsw,rp_0,rp_1,i1,h2,h4,n0]|simp (maxSteps:=9^7) (disch:=first|with_reducible assumption|omega) only [dxB]|(simp only [kdB];split)|(simp only [kvB];split))
  ·rw [if_neg k4]
   have e4 : ¬ x = 4:=fun h => k4 (Or.inl h)
   have f4 : ¬ y = 4:=fun h => k4 (Or.inr h)
   by_cases k1 : x = 1∨y = 1
   ·rw [if_pos k1]
    simp only [zA,zrA,im2,cast0,Bool.not_false,Int.cast_ofNat_Int] at *
    rcases k1 with rfl | rfl
    ·have y2 : ¬ y≤2:=fun h => k0 ⟨by omega,h⟩
     repeat' (first|simp (maxSteps:=9^7) only [seval,exC,ZaA,Zic,ZeK,o1,Zsx,Zsw,rp_0,rp_1,i1,y2,f4,n1]|simp (maxSteps:=9^7) (disch:=first|with_reducible assumption|omega) only [dxB]|(simp only [kdB];split)|(simp only [kvB];split))
    ·have x2 : ¬ x≤2:=fun h => k0 ⟨h,by omega⟩
     have x1 : ¬ x = 1:=by omega
     repeat' (first|simp (maxSteps:=9^7) only [seval,exC,ZaA,Zic,ZeK,o1,Zsx,Zsw,rp_0,rp_1,i1,x2,e4,x1,n1]|simp (maxSteps:=9^7) (disch:=first|with_reducible assumption|omega) only [dxB]|(simp only [kdB];split)|(simp only [kvB];split))
   ·rw [if_neg k1]
    have e1 : ¬ x = 1:=fun h => k1 (Or.inl h)
    have f1 : ¬ y = 1:=fun h => k1 (Or.inr h)
    simp only [zA,zrA,im2,cast0,boxA,Bool.not_false] at *
    by_cases x2 : x≤2
    ·have y2 : ¬ y≤2:=fun h => k0 ⟨x2,h⟩
     repeat' (first|simp (maxSteps:=9^7) only [seval,exC,ZaA,Zic,ZeK,o1,Zsx,Zsw,rp_0,rp_1,i1,x2,y2,e4,f4,e1,f1,b1,b2,t1,w1]|simp (maxSteps:=9^7) (disch:=first|with_reducible assumption|omega) only [dxB]|(simp only [kdB];split)|(simp only [kvB];split))
    ·repeat' (first|simp (maxSteps:=9^7) only [seval,exC,ZaA,Zic,ZeK,o1,Zsx,Zsw,rp_0,rp_1,i1,x2,e4,f4,e1,f1,b1,b2,t1,w1]|simp (maxSteps:=9^7) (disch:=first|with_reducible assumption|omega) only [dxB]|(simp only [kdB];split)|(simp only [kvB];split))
theorem ZgZ (F : Fm) {a b : Nat} : (F.fin a∧F.fin b)↔zcl (F.cls a) (F.cls b)≤2:=by
 have ra:=ZaN F a
 have rb:=ZaN F b
 rw [Zag,Zag]
 unfold zcl
 by_cases h1 : F.cls a = 4∨F.cls b = 4
 ·rw [if_pos h1]; omega
 ·rw [if_neg h1]
  by_cases h2 : F.cls a = 5∨F.cls b = 5
  ·rw [if_pos h2]; omega
  ·rw [if_neg h2]; split <;> omega
set_option maxHeartbeats 8000000 in
theorem Zpy (J : Al G T g) (F : Fm) {md : Int} (hm : 1≤md∧md≤5) {a b c d : Nat} (ha : a < 2 * F.sg) (hb : b < 2 * F.sg) (hc : c < 2 * F.sg) (hd : d < 2 * F.sg) :
  run G T 273 [.int .u8 F.u,.int .u8 md,zA a b,zA c d] = some (.tup [zrA (smW F md a b c d).1 (smW F md a b c d).2,.bool (smS F a b c d)]):=by
 rw [Zab G T J.J.Zpy]
 have c1:=Zfb J F ha hb
 have c2:=Zfb J F hc hd
 have f1:=ZbZ J F ha hb
 have f2:=ZbZ J F hc hd
 have n0:=ZgB J F (x:=0)
 have n1:=ZgB J F (x:=1)
 have b1:=fun h => ZmP J F ha hb h
 have b2:=fun h => ZmP J F hc hd h
 have i1:=ZhA J F (n:=false)
 have t1:=Zkd J F hm (bx_c F a b).1 (bx_c F a b).2 (bx_c F c d).1 (bx_c F c d).2
 have w1:=Zlo J F (to:=F.inf false) (ZAQ F md (sT_c (bx_c F a b).1 (bx_c F c d).1) (sM_c (sT_c (bx_c F a b).2 (bx_c F c d).2))).1 (ZAQ F md (sT_c (bx_c F a b).1 (bx_c F c d).2) (sT_c (bx_c F a b).2 (bx_c F c d).1)).1
 rw [ZwN F md (Or.inr rfl) (sT_c (bx_c F a b).1 (bx_c F c d).1) (sM_c (sT_c (bx_c F a b).2 (bx_c F c d).2)),ZwN F md (Or.inr rfl) (sT_c (bx_c F a b).1 (bx_c F c d).2) (sT_c (bx_c F a b).2 (bx_c F c d).1)] at w1
 rw [show (sP md (sT (bx F a b).1 (bx F c d).1) (sM (sT (bx F a b).2 (bx F c d).2))) = (smP F md a b c d).1 from rfl,show sP md (sT (bx F a b).1 (bx F c d).2) (sT (bx F a b).2 (bx F c d).1) = (smP F md a b c d).2 from rfl] at w1
 rw [show sd F a (decide (zcl (F.cls a) (F.cls b) = 3)) = (bx F a b).1 from rfl,show sd F b (decide (zcl (F.cls a) (F.cls b) = 3)) = (bx F a b).2 from rfl] at b1
 rw [show sd F c (decide (zcl (F.cls c) (F.cls d) = 3)) = (bx F c d).1 from rfl,show sd F d (decide (zcl (F.cls c) (F.cls d) = 3)) = (bx F c d).2 from rfl] at b2
 have ra:=Zlg F a b
 have rc:=Zlg F c d
 have fa:=ZgZ F (a:=a) (b:=b)
 have fc:=ZgZ F (a:=c) (b:=d)
 unfold smW smS
 generalize (addW F md (bw F (sT (bx F a b).1 (bx F c d).1)) (bw F (sM (sT (bx F a b).2 (bx F c d).2)))).1 = u1 at *
 generalize (addW F md (bw F (sT (bx F a b).1 (bx F c d).2)) (bw F (sT (bx F a b).2 (bx F c d).1))).1 = u2 at *
 generalize smP F md a b c d = P at *
 generalize bw F (bx F a b).1 = p1 at *
 generalize bw F (bx F a b).2 = p2 at *
 generalize bw F (bx F c d).1 = q1 at *
 generalize bw F (bx F c d).2 = q2 at *
 generalize zcl (F.cls a) (F.cls b) = x at *
 generalize zcl (F.cls c) (F.cls d) = y at *
 by_cases k0 : x≤2∧y≤2
 ·obtain ⟨x2,y2⟩:=k0
  rw [if_pos ⟨x2,y2⟩,decide_eq_true (show x≤2∧y≤2 from ⟨x2,y2⟩)]
  rw [decide_eq_true (fa.2 x2)] at f1
  rw [decide_eq_true (fc.2 y2)] at f2
  simp only [zA,zrA,cast0,Bool.not_true] at *
  repeat' (first|simp (maxSteps:=9^7) only [seval,exC,Zca,c1,c2,f1,f2]|simp (maxSteps:=9^7) (disch:=first|with_reducible assumption|omega) only [dxB]|(simp only [kdB];split)|(simp only [kvB];split))
 ·rw [if_neg k0,decide_eq_false k0]
  have hfin : (¬ x≤2)∨(x≤2∧¬ y≤2):=by omega
  have ff : ∀ r : Prop,((run G T 250 [.int .u8 F.u,zA a b] = some (.bool false))→r)→((run G T 250 [.int .u8 F.u,zA a b] = some (.bool true))→(run G T 250 [.int .u8 F.u,zA c d] = some (.bool false))→r)→r:=fun r r1 r2 => by
   rcases hfin with h | ⟨h,h2⟩
   ·rw [decide_eq_false (fun q => h (fa.1 q))] at f1; exact r1 f1
   ·rw [decide_eq_true (fa.2 h)] at f1
    rw [decide_eq_false (fun q => h2 (fc.1 q))] at f2
    exact r2 f1 f2
  clear f1 f2 fa fc
  by_cases k4 : x = 4∨y = 4
  ·rw [if_pos k4]
   clear b1 b2 hfin ra rc k0
   by_cases h4 : x = 4
   ·subst h4
    apply ff <;> (clear ff; intros; simp only [zA,zrA,cast0,Bool.not_false] at *; repeat' (first|simp (maxSteps:=9^7) only [seval,exC,Zca,c1,c2, *,n0]|simp (maxSteps:=9^7) (disch:=first|with_reducible assumption|omega) only [dxB]|(simp only [kdB];split)|(simp only [kvB];split)))
   ·have h5 : y = 4:=by omega
    subst h5
    clear k4
    apply ff <;> (clear ff; intros; simp only [zA,zrA,cast0,Bool.not_false] at *; repeat' (first|simp (maxSteps:=9^7) only [seval,exC,Zca,c1,c2, *,n0]|simp (maxSteps:=9^7) (disch:=first|with_reducible assumption|omega) only [dxB]|(simp only [kdB];split)|(simp only [kvB];split)))
  ·rw [if_neg k4]
   have e4 : ¬ x = 4:=fun h => k4 (Or.inl h)
   have f4 : ¬ y = 4:=fun h => k4 (Or.inr h)
   have b1:=b1 e4
   have b2:=b2 f4
   by_cases k1 : x = 1∨y = 1
   ·rw [if_pos k1]
    clear hfin ra rc k0 k4
    by_cases h1 : x = 1
    ·subst h1
     clear k1
     apply ff <;> (clear ff; intros; simp only [zA,zrA,cast0,Bool.not_false,Int.cast_ofNat_Int] at *; repeat' (first|simp (maxSteps:=9^7) only [seval,exC,Zca, *]|simp (maxSteps:=9^7) (disch:=first|with_reducible assumption|omega) only [dxB]|(simp only [kdB];split)|(simp only [kvB];split)))
    ·have h5 : y = 1:=by omega
     subst h5
     clear k1
     apply ff <;> (clear ff; intros; simp only [zA,zrA,cast0,Bool.not_false,Int.cast_ofNat_Int] at *; repeat' (first|simp (maxSteps:=9^7) only [seval,exC,Zca, *]|simp (maxSteps:=9^7) (disch:=first|with_reducible assumption|omega) only [dxB]|(simp only [kdB];split)|(simp only [kvB];split)))
   ·rw [if_neg k1]
    have e1 : ¬ x = 1:=fun h => k1 (Or.inl h)
    have f1 : ¬ y = 1:=fun h => k1 (Or.inr h)
    clear hfin ra rc k0 k4 k1
    apply ff <;> (clear ff; intros; simp only [zA,zrA,cast0,Bool.not_false] at *; repeat' (first|simp (maxSteps:=9^7) only [seval,exC,Zca, *]|simp (maxSteps:=9^7) (disch:=first|with_reducible assumption|omega) only [dxB]|(simp only [kdB];split)|(simp only [kvB];split)))
end Go.Cv
namespace Go.Cv
variable {G : Nat→Option (List AV)} {T : Tbl} {g : Nat}
theorem ZGa : DyA true ⟨false,0,0⟩ = .agg [.bool false,.nil,.int .i64 0]:=by simp only [DyA,A3,Zaj,ZtD.symm]
theorem Znm (J : Al G T g) (F : Fm) {w : Nat} (hw : w < 2 * F.sg) : run G T 306 [.int .u8 F.u,.int .u64 (w : Int)] = some (.bool (F.ng w)):=by
 rw [Zab G T J.J.Znm]
 have h2:=ZcM J F (Zce hw)
 generalize F.ng w = n at *
 simp only [fldA] at *
 repeat' (first|simp (maxSteps:=9^7) only [seval,exC,Zkc,fd_3,h2]|simp (maxSteps:=9^7) (disch:=first|with_reducible assumption|omega) only [dxB]|(simp only [kdB];split)|(simp only [kvB];split))
theorem ZFs (J : Al G T g) {z y : Bool} {a b : Dy} (ha : Bd a 16384) (hb : Bd b 16384) : ∃ z',run G T 154 [DyA z a,DyA y b] = some (DyA z' (mulD a b)):=by
 obtain ⟨p1,p2,p3⟩:=ha
 obtain ⟨q1,q2,q3⟩:=hb
 have l1:=Zaa a.m
 have l2:=Zaa b.m
 exact Zjj J (z:=z) (y:=y) (a:=a) (b:=b) (by omega) (by omega) (by omega) (by omega)
theorem Zfy (J : Al G T g) (F : Fm) {a b : Nat} {minus : Bool} (ha : a < 2 * F.sg) (hb : b < 2 * F.sg) (fa : F.fin a) (fb : F.fin b) :
  ∃ z,run G T 301 [.int .u8 F.u,.int .u64 (a : Int),.int .u64 (b : Int),.bool minus] = some (numA z (tm F a b minus)):=by
 apply exP
 rw [Zab G T J.J.Zfy]
 obtain ⟨z1,v1⟩:=Zbo J F (Zce ha) fa
 obtain ⟨z2,v2⟩:=Zbo J F (Zce hb) fb
 rw [← Zbm fa] at v1
 rw [← Zbm fb] at v2
 obtain ⟨z3,m1⟩:=ZFs J (z:=z1) (y:=z2) ((ZeZ F a).mono (by decide)) ((ZeZ F b).mono (by decide))
 have n1:=Znu J (z:=z3) (d:=mulD (F.vl a) (F.vl b))
 have g1:=Znm J F ha
 have g2:=Znm J F hb
 unfold tm
 generalize negD (mulD (F.vl a) (F.vl b)) = e at *
 generalize mulD (F.vl a) (F.vl b) = d at *
 generalize F.vl a = va at *
 generalize F.vl b = vb at *
 generalize F.ng a = na at *
 generalize F.ng b = nb at *
 have q1 : ((na != nb) != true) = decide (na = nb):=by cases na <;> cases nb <;> rfl
 have q2 : ((na != nb) != false) = !decide (na = nb):=by cases na <;> cases nb <;> rfl
 simp only [DyA,A3,numA] at *
 cases minus
 ·rw [q2]
  simp only [Bool.false_eq_true,if_false]
  repeat' (first|simp (maxSteps:=9^7) only [seval,exC,ZeJ,v1,v2,m1,g1,g2]|simp (maxSteps:=9^7) (disch:=first|with_reducible assumption|omega) only [dxB]|(simp only [kdB];split)|(simp only [kvB];split))
  all_goals exact ⟨_,rfl,z3,by cases na <;> cases nb <;> rfl⟩
 ·rw [q1]
  simp only [if_true]
  repeat' (first|simp (maxSteps:=9^7) only [seval,exC,ZeJ,v1,v2,m1,n1,g1,g2]|simp (maxSteps:=9^7) (disch:=first|with_reducible assumption|omega) only [dxB]|(simp only [kdB];split)|(simp only [kvB];split))
  all_goals exact ⟨_,rfl,z3,by cases na <;> cases nb <;> rfl⟩
def cellsN (z : Bool) (x : Dy × Bool) : List AV:=[.bool x.1.n,D z (dl x.1.m),.int .i64 x.1.e,.bool x.2]
theorem ZsB (e : Env) (h : Heap) : evL G T ZiF e h = kS G T (evL G T Zcn (keepE [0,1,4,6,7,8] e) h) ZiF:=Zae G T rfl e h
section
variable (a1 a2 a3 a4 b1 b2 b3 b4 c1 c2 c3 c4 : AV) (k : IntKind) (h : Mem) (l : List AV)
theorem ZCl : iaddrV 4 (.imm 2 [a1,a2,a3,a4,b1,b2,b3,b4]) (.int k 0) = some (.iptr [a1,a2,a3,a4,b1,b2,b3,b4] 0):=rfl
theorem ZBn : iaddrV 4 (.imm 2 [a1,a2,a3,a4,b1,b2,b3,b4]) (.int k 1) = some (.iptr [a1,a2,a3,a4,b1,b2,b3,b4] 4):=rfl
theorem r3_0 : rdAt G h 3 (.iptr (a1 :: a2 :: a3 :: l) 0) = some [a1,a2,a3]:=by simp [rdAt]
theorem r3_4 : rdAt G h 3 (.iptr (a1 :: a2 :: a3 :: a4 :: b1 :: b2 :: b3 :: l) 4) = some [b1,b2,b3]:=by simp [rdAt]
theorem r1_3 : rdAt G h 1 (.iptr (a1 :: a2 :: a3 :: a4 :: l) 3) = some [a4]:=by simp [rdAt]
theorem r1_7 : rdAt G h 1 (.iptr (a1 :: a2 :: a3 :: a4 :: b1 :: b2 :: b3 :: b4 :: l) 7) = some [b4]:=by simp [rdAt]
end
theorem ZCp (d : Dy) : addD ⟨false,0,0⟩ d = d:=by unfold addD; rw [if_pos rfl]
theorem Zqm (d : Dy) : (d.m = 0∧sgnD d = 0)∨(d.m≠0∧¬ sgnD d = 0):=by
 by_cases h : d.m = 0
 ·exact Or.inl ⟨h,ZmT.2 h⟩
 ·exact Or.inr ⟨h,fun q => h (ZmT.1 q)⟩
set_option maxHeartbeats 8000000 in
theorem Zrc (J : Al G T g) {md : Int} {z y : Bool} {x w : Dy × Bool} (hx : Bd x.1 1073741824) (hw : Bd w.1 1073741824) :
  ∃ z',run G T 275 [.int .u8 md,.imm 2 (cellsN z x ++ cellsN y w)] = some (.tup [DyA z' (addD x.1 w.1),.bool (zsg md x w)]):=by
 rw [Zab G T J.J.ref12_Sum]
 obtain ⟨z1,d1⟩:=Zex J (z:=true) (y:=z) (a:=⟨false,0,0⟩) (b:=x.1) ⟨by simp only [Zai]; omega,by simp,by simp⟩ (hx.mono (by decide))
 rw [ZCp,ZGa] at d1
 obtain ⟨z2,d2⟩:=Zex J (z:=z1) (y:=y) (a:=x.1) (b:=w.1) (hx.mono (by decide)) (hw.mono (by decide))
 have s1:=ZaY J (z:=z) (d:=x.1)
 have s2:=ZaY J (z:=y) (d:=w.1)
 refine ⟨z2,?_⟩
 unfold zsg cellsN
 have c1:=Zqm x.1
 have c2:=Zqm w.1
 generalize addD x.1 w.1 = s at *
 clear hx hw
 obtain ⟨d,n⟩:=x
 obtain ⟨e,k⟩:=w
 simp only at *
 rcases c1 with ⟨c1,q1⟩ | ⟨c1,q1⟩
 ·rw [q1] at s1
  rcases c2 with ⟨c2,q2⟩ | ⟨c2,q2⟩
  ·rw [q2] at s2
   by_cases hk : k = n
   ·subst hk
    rw [if_pos ⟨c1,c2,rfl⟩]
    simp only [DyA,A3,List.cons_append,List.nil_append] at *
    repeat' (first|simp (maxSteps:=9^7) only [seval,exC,ZdK,ZgM,ZsB,Zcn,ZCl,ZBn,fa_i,r3_0,r3_4,r1_3,r1_7,wr_1,wr1,wr_2,wr2,d1,d2,s1,s2]|simp (maxSteps:=9^7) (disch:=first|with_reducible assumption|omega) only [dxB]|(simp only [kdB];split)|(simp only [kvB];split))
   ·rw [if_neg (fun h => hk h.2.2.symm)]
    simp only [DyA,A3,List.cons_append,List.nil_append] at *
    repeat' (first|simp (maxSteps:=9^7) only [seval,exC,ZdK,ZgM,ZsB,Zcn,ZCl,ZBn,fa_i,r3_0,r3_4,r1_3,r1_7,wr_1,wr1,wr_2,wr2,d1,d2,s1,s2,hk]|simp (maxSteps:=9^7) (disch:=first|with_reducible assumption|omega) only [dxB]|(simp only [kdB];split)|(simp only [kvB];split))
  ·rw [if_neg (fun h => c2 h.2.1)]
   generalize sgnD e = t at *
   simp only [DyA,A3,List.cons_append,List.nil_append] at *
   repeat' (first|simp (maxSteps:=9^7) only [seval,exC,ZdK,ZgM,ZsB,Zcn,ZCl,ZBn,fa_i,r3_0,r3_4,r1_3,r1_7,wr_1,wr1,wr_2,wr2,d1,d2,s1,s2,q2]|simp (maxSteps:=9^7) (disch:=first|with_reducible assumption|omega) only [dxB]|(simp only [kdB];split)|(simp only [kvB];split))
 ·rw [if_neg (fun h => c1 h.1)]
  generalize sgnD d = t at *
  simp only [DyA,A3,List.cons_append,List.nil_append] at *
  repeat' (first|simp (maxSteps:=9^7) only [seval,exC,ZdK,ZgM,ZsB,Zcn,ZCl,ZBn,fa_i,r3_0,r3_4,r1_3,r1_7,wr_1,wr1,wr_2,wr2,d1,d2,s1,q1]|simp (maxSteps:=9^7) (disch:=first|with_reducible assumption|omega) only [dxB]|(simp only [kdB];split)|(simp only [kvB];split))
theorem ZgQ (J : Al G T g) (F : Fm) {md : Int} (hm : 1≤md∧md≤5) {z y s : Bool} {d b : Dy} (hd : Bd d 65537) (hb : Bd b 65537) (b0 : b.m≠0) :
  run G T 276 [.int .u8 F.u,.int .u8 md,DyA z d,.bool s,DyA y b] = some (.tup [.int .u64 ((ptQ F md d s b).1 : Int),.int .u8 ((ptQ F md d s b).2 : Int)]):=by
 rw [Zab G T J.J.ZgQ]
 have s1:=ZaY J (z:=z) (d:=d)
 have c1:=Zqm d
 unfold ptQ
 rcases c1 with ⟨c1,q1⟩ | ⟨c1,q1⟩
 ·rw [q1] at s1
  rw [if_pos c1]
  have w1:=Zbi J F (n:=s) (w:=0)
  rw [Nat.zero_mod,Nat.zero_add] at w1
  generalize F.sgn s = S at *
  simp only [DyA,A3,cast0] at *
  repeat' (first|simp (maxSteps:=9^7) only [seval,exC,ZcS,s1,w1]|simp (maxSteps:=9^7) (disch:=first|with_reducible assumption|omega) only [dxB]|(simp only [kdB];split)|(simp only [kvB];split))
 ·rw [if_neg c1]
  have hbl:=hd.bl
  have hbb:=hb.bl
  have r1:=ZpM J F hm (z:=z) (y:=y) c1 b0 (hd.mono (by decide)) (hb.mono (by decide)) (by omega) (by omega)
  generalize quoW F md d b = S at *
  generalize sgnD d = t at *
  simp only [DyA,A3] at *
  repeat' (first|simp (maxSteps:=9^7) only [seval,exC,ZcS,s1,q1,r1]|simp (maxSteps:=9^7) (disch:=first|with_reducible assumption|omega) only [dxB]|(simp only [kdB];split)|(simp only [kvB];split))
end Go.Cv
namespace Go.Cv
variable {G : Nat→Option (List AV)} {T : Tbl} {g : Nat}
def tw (F : Fm) (md : Int) (x y : Dy × Bool) (b : Dy) : Nat × Nat:=ptQ F md (addD x.1 y.1) (zsg md x y) b
theorem tw_s (F : Fm) (md : Int) {x y : Dy × Bool} {b : Dy} {s : Bool} (h : (addD x.1 y.1).m = 0→s = zsg md x y) : ptQ F md (addD x.1 y.1) s b = tw F md x y b:=by
 unfold tw ptQ
 by_cases h0 : (addD x.1 y.1).m = 0
 ·rw [if_pos h0,if_pos h0,h h0]
 ·rw [if_neg h0,if_neg h0]
def mulR (F : Fm) (md : Int) (a b c d : Nat) : (Nat × Nat) × (Nat × Nat):=(tw F md (tm F a c false) (tm F b d true) oneD,tw F md (tm F a d false) (tm F b c false) oneD)
def divR (F : Fm) (md : Int) (a b c d : Nat) : (Nat × Nat) × (Nat × Nat):=(tw F md (tm F a c false) (tm F b d false) (sqD F c d),tw F md (tm F b c false) (tm F a d true) (sqD F c d))
def mulZ (F : Fm) (md : Int) (a b c d : Nat) : (Nat × Nat) × (Nat × Nat):=if smS F a b c d then smW F md a b c d else mulR F md a b c d
theorem ZEu : Nz oneD:=⟨fun h => absurd h (by decide),fun _ => rfl⟩
theorem ZzA {K : Nat} (h : 1≤K) : Bd oneD K:=by
 have : blen 1 = 1:=by decide
 exact ⟨by show blen 1≤K; omega,by show -(K : Int)≤0; omega,by show (0 : Int)≤K; omega⟩
theorem ZIL (F : Fm) {c d : Nat} (hc : c < 2 * F.sg) (hd : d < 2 * F.sg) (h : zcl (F.cls c) (F.cls d) = 2) : (sqD F c d).m≠0:=by
 have hf:=ZgZ F (a:=c) (b:=d)
 obtain ⟨fc,fd⟩:=hf.2 (by omega)
 intro h0
 obtain ⟨L,l1,l2⟩ : ∃ L : Int,LoE (F.vl c) L∧LoE (F.vl d) L:=⟨F.low,ZkQ fc,ZkQ fd⟩
 have e:=ZHB F l1 l2
 rw [Zbs h0] at e
 have n1:=ZrR (iv (F.vl c) L)
 have n2:=ZrR (iv (F.vl d) L)
 have z : ∀ {w : Nat},w < 2 * F.sg→F.fin w→LoE (F.vl w) L→iv (F.vl w) L * iv (F.vl w) L = 0→F.cls w = 1:=fun {w} hw fw lw q => by
  have q0 : iv (F.vl w) L = 0:=by rcases Int.mul_eq_zero.1 q with q | q <;> exact q
  have:=Zvc (ZbJ F w) (b:=⟨false,0,0⟩) ⟨fun _ => rfl,fun h => absurd rfl h⟩ lw (Or.inl rfl) (by rw [q0,Zbs rfl])
  exact (ZbO hw fw).2 (by rw [this])
 have c1:=z hc fc l1 (by omega)
 have c2:=z hd fd l2 (by omega)
 unfold zcl at h
 rw [c1,c2] at h
 simp at h
set_option maxHeartbeats 8000000 in
theorem ZpW (J : Al G T g) (F : Fm) {md : Int} (hm : 1≤md∧md≤5) {a b c d : Nat} (ha : a < 2 * F.sg) (hb : b < 2 * F.sg) (hc : c < 2 * F.sg) (hd : d < 2 * F.sg) :
  run G T 252 [.int .u8 F.u,.int .u8 md,zA a b,zA c d] = some (.tup [zrA (mulZ F md a b c d).1 (mulZ F md a b c d).2,.int .i64 0]):=by
 rw [Zab G T J.J.ZpW]
 have s1:=ZmL J F hm ha hb hc hd
 unfold mulZ
 by_cases hs : smS F a b c d = true
 ·rw [if_pos hs]
  rw [hs] at s1
  generalize smW F md a b c d = S at *
  simp only [zA,zrA] at *
  repeat' (first|simp (maxSteps:=9^7) only [seval,exC,ZhL,s1]|simp (maxSteps:=9^7) (disch:=first|with_reducible assumption|omega) only [dxB]|(simp only [kdB];split)|(simp only [kvB];split))
 ·rw [if_neg hs]
  rw [Bool.not_eq_true] at hs
  rw [hs] at s1
  obtain ⟨z1,y1,g1⟩:=ZgD J F ha hb
  obtain ⟨z2,y2,g2⟩:=ZgD J F hc hd
  obtain ⟨z,y,s,t,t1,e1,e2⟩:=Zgs J F (md:=md) (z1:=z1) (z2:=y1) (y1:=z2) (y2:=y2) (n1:=F.ng a) (n2:=F.ng b) (k1:=F.ng c) (k2:=F.ng d) (ZbJ F a) (ZbJ F b) (ZbJ F c) (ZbJ F d) (ZeZ F a) (ZeZ F b) (ZeZ F c) (ZeZ F d)
  obtain ⟨zo,i1⟩:=ZyW J
  have b1:=Zom F a c
  have b2:=(Zom F b d).neg
  have b3:=Zom F a d
  have b4:=Zom F b c
  have k1:=Zhs J F hm (z:=z) (z':=y) (y:=zo) (s:=s) (t:=t) (Zgz (Zdo (F.vl a) (F.vl c)) (Zwi (Zdo (F.vl b) (F.vl d)))) (Zgz (Zdo (F.vl a) (F.vl d)) (Zdo (F.vl b) (F.vl c))) ZEu ((Zml b1 b2).mono (by decide)) ((Zml b3 b4).mono (by decide)) (ZzA (by decide)) (by decide)
  have r1 : ptQ F md (addD (mulD (F.vl a) (F.vl c)) (negD (mulD (F.vl b) (F.vl d)))) s oneD = (mulR F md a b c d).1:=by
   have:=tw_s F md (x:=tm F a c false) (y:=tm F b d true) (b:=oneD) (s:=s) (fun h => by
    have h2:=e1 h
    unfold tm
    simp only [Bool.false_eq_true,if_false,if_true,Bool.bne_false,Bool.bne_true]
    exact h2)
   exact this
  have r2 : ptQ F md (addD (mulD (F.vl a) (F.vl d)) (mulD (F.vl b) (F.vl c))) t oneD = (mulR F md a b c d).2:=by
   have:=tw_s F md (x:=tm F a d false) (y:=tm F b c false) (b:=oneD) (s:=t) (fun h => by
    have h2:=e2 h
    unfold tm
    simp only [Bool.false_eq_true,if_false,Bool.bne_false]
    exact h2)
   exact this
  rw [r1,r2] at k1
  clear r1 r2 e1 e2 b1 b2 b3 b4
  generalize mulR F md a b c d = R at *
  generalize smW F md a b c d = S at *
  generalize addD (mulD (F.vl a) (F.vl c)) (negD (mulD (F.vl b) (F.vl d))) = X at *
  generalize addD (mulD (F.vl a) (F.vl d)) (mulD (F.vl b) (F.vl c)) = Y at *
  generalize oneD = one at *
  generalize F.vl a = va at *
  generalize F.vl b = vb at *
  generalize F.vl c = vc at *
  generalize F.vl d = vd at *
  generalize F.ng a = na at *
  generalize F.ng b = nb at *
  generalize F.ng c = nc at *
  generalize F.ng d = nd at *
  simp only [zA,zrA,gaussA,workA,DyA,A3] at *
  repeat' (first|simp (maxSteps:=9^7) only [seval,exC,ZhL,s1,g1,g2,t1,i1,k1]|simp (maxSteps:=9^7) (disch:=first|with_reducible assumption|omega) only [dxB]|(simp only [kdB];split)|(simp only [kvB];split))
theorem ZxT (J : Al G T g) : ∃ z,run G T 20 [.int .i64 1] = some (DyA z oneD):=by
 apply exP
 rw [Zab G T J.C.Znc]
 obtain ⟨z1,h1⟩:=Ziz J (n:=1) (by decide)
 have hl : (dl 1).length < 17179869184:=by
  have h1:=Zaa 1
  have h2 : blen 1 = 1:=by decide
  omega
 obtain ⟨z2,h2⟩:=ZaI J (n:=false) (z:=z1) (a:=1) (e:=0) hl (by omega)
 rw [show mkD false 1 0 = oneD from Zob (by decide)] at h2
 have w1 : IntKind.u64.wrap 1 = 1:=rfl
 rw [show ((1 : Nat) : Int) = 1 from rfl] at h1
 generalize oneD = d at *
 simp only [DyA,A3] at *
 repeat' (first|simp (maxSteps:=9^7) only [seval,exC,Zfe,w1,h1,h2]|simp (maxSteps:=9^7) (disch:=first|with_reducible assumption|omega) only [dxB]|(simp only [kdB];split)|(simp only [kvB];split))
 all_goals exact ⟨_,rfl,z2,rfl⟩
theorem Zjz (J : Al G T g) (F : Fm) {a b c d : Nat} (ha : a < 2 * F.sg) (hb : b < 2 * F.sg) (hc : c < 2 * F.sg) (hd : d < 2 * F.sg) (fa : F.fin a) (fb : F.fin b) (fc : F.fin c) (fd : F.fin d) :
  ∃ z y u v,run G T 274 [.int .u8 F.u,zA a b,zA c d] = some (.tup [gaussA z y (tm F a c false) (tm F b d true),gaussA u v (tm F a d false) (tm F b c false)]):=by
 rw [Zab G T J.J.Zjz]
 obtain ⟨z,h1⟩:=Zfy J F (minus:=false) ha hc fa fc
 obtain ⟨y,h2⟩:=Zfy J F (minus:=true) hb hd fb fd
 obtain ⟨u,h3⟩:=Zfy J F (minus:=false) ha hd fa fd
 obtain ⟨v,h4⟩:=Zfy J F (minus:=false) hb hc fb fc
 refine ⟨z,y,u,v,?_⟩
 generalize tm F a c false = t1 at *
 generalize tm F b d true = t2 at *
 generalize tm F a d false = t3 at *
 generalize tm F b c false = t4 at *
 simp only [zA,gaussA,numA] at *
 repeat' (first|simp (maxSteps:=9^7) only [seval,exC,ZeN,h1,h2,h3,h4]|simp (maxSteps:=9^7) (disch:=first|with_reducible assumption|omega) only [dxB]|(simp only [kdB];split)|(simp only [kvB];split))
theorem ZIq (F : CallF) (d : Option Nat) (os : List IOper) (e : Env) (h : Heap) (n : Nat) (zero : List AV) (ps : List (Nat × Nat × IOpd)) : evOps G F (⟨d,.bslice n 4 zero ps,none⟩ :: os) e h =
  kBs G F (fillA (repA n zero) (ps.map fun (o,n,x) => (o,n,opd e x))) (.own h.b.length 0 n 4) d os e h:=Zgd G F d os e h n 4 zero ps
theorem ZId (b : Nat) (k : IntKind) : iaddrAV 2 4 (.ptr b 0) (.int k 0) = some (.ptr b 0):=rfl
theorem ZGM (b : Nat) (k : IntKind) : iaddrAV 2 4 (.ptr b 0) (.int k 1) = some (.ptr b 4):=rfl
set_option maxHeartbeats 16000000 in
theorem ZpE (J : Al G T g) (F : Fm) {md : Int} (hm : 1≤md∧md≤5) {a b c d : Nat} (ha : a < 2 * F.sg) (hb : b < 2 * F.sg) (hc : c < 2 * F.sg) (hd : d < 2 * F.sg) :
  run G T 256 [.int .u8 F.u,.int .u8 md,zA a b,zA c d] = some (zrA (mulZ F md a b c d).1 (mulZ F md a b c d).2):=by
 rw [Zab G T J.J.ZpE]
 have s1:=Zpy J F hm ha hb hc hd
 unfold mulZ
 by_cases hs : smS F a b c d = true
 ·rw [if_pos hs]
  rw [hs] at s1
  generalize smW F md a b c d = S at *
  simp only [zA,zrA] at *
  repeat' (first|simp (maxSteps:=9^7) only [seval,exC,ZhH,s1]|simp (maxSteps:=9^7) (disch:=first|with_reducible assumption|omega) only [dxB]|(simp only [kdB];split)|(simp only [kvB];split))
 ·rw [if_neg hs]
  have hz : (zcl (F.cls a) (F.cls b)≤2∧zcl (F.cls c) (F.cls d)≤2):=by
   unfold smS at hs
   simpa using hs
  obtain ⟨fa,fb⟩:=(ZgZ F).2 hz.1
  obtain ⟨fc,fd⟩:=(ZgZ F).2 hz.2
  rw [Bool.not_eq_true] at hs
  rw [hs] at s1
  obtain ⟨z,y,u,v,p1⟩:=Zjz J F ha hb hc hd fa fb fc fd
  obtain ⟨zo,i1⟩:=ZxT J
  have b1:=ZoE F a c false
  have b2:=ZoE F b d true
  have b3:=ZoE F a d false
  have b4:=ZoE F b c false
  obtain ⟨w1,q1⟩:=Zrc J (md:=md) (z:=z) (y:=y) (b1.1.mono (by decide)) (b2.1.mono (by decide))
  obtain ⟨w2,q2⟩:=Zrc J (md:=md) (z:=u) (y:=v) (b3.1.mono (by decide)) (b4.1.mono (by decide))
  have r1:=ZgQ J F hm (z:=w1) (y:=zo) (s:=zsg md (tm F a c false) (tm F b d true)) ((Zml b1.1 b2.1).mono (by decide)) (ZzA (K:=65537) (by decide)) (by decide)
  have r2:=ZgQ J F hm (z:=w2) (y:=zo) (s:=zsg md (tm F a d false) (tm F b c false)) ((Zml b3.1 b4.1).mono (by decide)) (ZzA (K:=65537) (by decide)) (by decide)
  rw [show ptQ F md (addD (tm F a c false).1 (tm F b d true).1) (zsg md (tm F a c false) (tm F b d true)) oneD = (mulR F md a b c d).1 from rfl] at r1
  rw [show ptQ F md (addD (tm F a d false).1 (tm F b c false).1) (zsg md (tm F a d false) (tm F b c false)) oneD = (mulR F md a b c d).2 from rfl] at r2
  clear b1 b2 b3 b4 hz
  generalize mulR F md a b c d = R at *
  generalize smW F md a b c d = S at *
  generalize zsg md (tm F a c false) (tm F b d true) = g1 at *
  generalize zsg md (tm F a d false) (tm F b c false) = g2 at *
  generalize addD (tm F a c false).1 (tm F b d true).1 = X at *
  generalize addD (tm F a d false).1 (tm F b c false).1 = Y at *
  generalize tm F a c false = t1 at *
  generalize tm F b d true = t2 at *
  generalize tm F a d false = t3 at *
  generalize tm F b c false = t4 at *
  generalize oneD = one at *
  simp only [zA,zrA,gaussA,cellsN,List.cons_append,List.nil_append,DyA,A3] at *
  repeat' (first|simp (maxSteps:=9^7) only [seval,exC,ZhH,ZIq,ZeK,ZId,ZGM,s1,p1,i1,q1,q2,r1,r2]|simp (maxSteps:=9^7) (disch:=first|with_reducible assumption|omega) only [dxB]|(simp only [kdB];split)|(simp only [kvB];split))
def eqsA (neg : Bool) (ls : List Bool) : AV→AV→Option AV
 | .agg a,.agg b => if (kindsA ls a && kindsA ls b) = true then (eqCells a b).map fun r => .bool (if neg then !r else r) else none
 | _,_ => none
theorem ZoB (F : CallF) (d : Option Nat) (os : List IOper) (e : Env) (h : Heap) (neg : Bool) (ls : List Bool) (x y : IOpd) : evOps G F (⟨d,.eqs neg ls x y,none⟩ :: os) e h = kV G F (eqsA neg ls (opd e x) (opd e y)) d os e h:=by
 rw [ZbW G F d _ os e h rfl]
 simp only [evQ]
 cases opd e x <;> cases opd e y <;> try rfl
 simp only [eqsA]
 split
 ·cases eqCells _ _ <;> rfl
 ·rfl
theorem ZqG (J : Al G T g) {f md : Int} {a b c d k : Nat} {p q : Nat × Nat} (h : run G T 286 [.int .u8 f,.int .u8 md,im2 a b c d] = some (.int .i64 0))
  (h1 : run G T k [.int .u8 f,.int .u8 md,.int .u64 (a : Int),.int .u64 (c : Int)] = some (.tup [.int .u64 (p.1 : Int),.int .u8 (p.2 : Int),.int .i64 0]))
  (h2 : run G T k [.int .u8 f,.int .u8 md,.int .u64 (b : Int),.int .u64 (d : Int)] = some (.tup [.int .u64 (q.1 : Int),.int .u8 (q.2 : Int),.int .i64 0])) :
  run G T 285 [.int .u8 f,.int .u8 md,zA a b,zA c d,.fn k []] = some (.tup [zrA p q,.int .i64 0]):=by
 rw [Zab G T J.J.exact_parts]
 simp only [zA,zrA,im2] at *
 repeat' (first|simp (maxSteps:=9^7) only [seval,exC,Zhf,Zic,ZeK,h,h1,h2]|simp (maxSteps:=9^7) (disch:=first|with_reducible assumption|omega) only [dxB]|(simp only [kdB];split)|(simp only [kvB];split))
theorem Zpu (J : Al G T g) (F : Fm) {md : Int} (hm : 1≤md∧md≤5) {a b c d : Nat} (ha : a < 2 * F.sg) (hb : b < 2 * F.sg) (hc : c < 2 * F.sg) (hd : d < 2 * F.sg) :
  run G T 262 [.int .u8 F.u,.int .u8 md,zA a b,zA c d] = some (.tup [zrA (addW F md a c) (addW F md b d),.int .i64 0]):=by
 rw [Zab G T J.J.Zpu]
 have o1:=Zuu J F hm (Zce ha) (Zce hb) (Zce hc) (Zce hd)
 rw [if_pos ⟨⟨ha,hb⟩,hc,hd⟩] at o1
 have p1:=ZqG J o1 (ZnB J F hm ha hc) (ZnB J F hm hb hd)
 generalize addW F md a c = S1 at *
 generalize addW F md b d = S2 at *
 simp only [zA,zrA] at *
 repeat' (first|simp (maxSteps:=9^7) only [seval,exC,Zkv,p1]|simp (maxSteps:=9^7) (disch:=first|with_reducible assumption|omega) only [dxB]|(simp only [kdB];split)|(simp only [kvB];split))
end Go.Cv
namespace Go.Cv
variable {G : Nat→Option (List AV)} {T : Tbl} {g : Nat}
section
variable (a b c d e f : AV) (k : IntKind)
end
end Go.Cv
namespace Go.Cv
variable {G : Nat→Option (List AV)} {T : Tbl} {g : Nat}
theorem ZpL (F : Fm) : F.nan < 2 * F.sg:=by cases F <;> decide
theorem ZCW (F : Fm) {w : Nat} (h : w < 2 * F.sg) : F.min w < 2 * F.sg:=by
 unfold Fm.min; split
 ·exact ZpL F
 ·exact (Zoi h).1
theorem Zwt (F : Fm) {s : Nat} (hs : s < 2 * F.sg) (p : Int × Bool) : sideW F s p < 2 * F.sg:=by
 have z0 : (0 : Nat) < 2 * F.sg:=by cases F <;> decide
 unfold sideW
 split
 ·split
  ·exact ZCW F hs
  ·exact ZCW F z0
 ·split
  ·exact hs
  ·exact z0
theorem ZHD (F : Fm) (md : Int) (a b c d : Nat) : (smW F md a b c d).1.1 < 2 * F.sg∧(smW F md a b c d).2.1 < 2 * F.sg:=by
 have z0 : (0 : Nat) < 2 * F.sg:=by cases F <;> decide
 have zn : F.nan < 2 * F.sg:=by cases F <;> decide
 unfold smW
 repeat' split
 ·exact ⟨z0,z0⟩
 ·exact ⟨zn,zn⟩
 ·exact ⟨zn,zn⟩
 ·exact ⟨Zwt F (Zpx F false) _,Zwt F (Zpx F false) _⟩
def pl (F : Fm) (w : Nat) : Int:=if F.ng w then -((w % F.sg : Nat) : Int) else ((w % F.sg : Nat) : Int)
theorem Zzg (F : Fm) {w : Nat} (hw : w < 2 * F.sg) (h5 : F.cls w≠5) : w % F.sg≤F.i0∧(F.fin w↔w % F.sg < F.i0):=by
 obtain ⟨h1,h2,h3,h4⟩:=Zlu hw
 have hp:=Nat.two_pow_pos F.fr
 have e1 : F.i0 = 2 ^ F.fr * F.most:=Nat.mul_comm ..
 have hlt : F.ex w < F.most→2 ^ F.fr * F.ex w + F.fc w < 2 ^ F.fr * F.most:=fun h => by
  have:=Nat.mul_le_mul_left (2 ^ F.fr) (show F.ex w + 1≤F.most from h)
  rw [Nat.mul_add] at this; omega
 unfold Fm.fin
 rw [h2,e1]
 by_cases h : F.ex w < F.most
 ·exact ⟨Nat.le_of_lt (hlt h),fun _ => hlt h,fun _ => h⟩
 ·have he : F.ex w = F.most:=by omega
  have hm0 : F.most≠0:=by cases F <;> decide
  have hf : F.fc w = 0:=by
   by_cases q : F.fc w = 0
   ·exact q
   ·exfalso; apply h5; unfold Fm.cls; rw [if_neg (by omega),if_neg h,if_neg q]
  rw [he,hf]
  exact ⟨Nat.le_refl _,fun q => absurd q (Nat.lt_irrefl _),fun q => absurd q (Nat.lt_irrefl _)⟩
theorem ZCk (F : Fm) {w : Nat} (hw : w < 2 * F.sg) : w = w % F.sg + F.sgn (F.ng w):=(Zlu hw).1
theorem ivp (F : Fm) {w : Nat} (hw : w < 2 * F.sg) (hf : F.fin w) : iv (F.val w) F.low = (if F.ng w then -1 else 1) * (magN F (w % F.sg) : Int)∧LoE (F.val w) F.low:=by
 have h5 : F.cls w≠5:=by have:=Zag.1 hf; omega
 have h:=Zua (F:=F) (F.ng w) ((Zzg F hw h5).2.1 hf)
 rw [← ZCk F hw] at h
 exact ⟨h.1,h.2.1⟩
theorem Zus {x y : Int} : (sgI (x - y) < 0↔x < y)∧(0 < sgI (x - y)↔y < x):=by rw [Zod,Zrk]; omega
theorem ZHl (F : Fm) {a b : Nat} (ha : a < 2 * F.sg) (hb : b < 2 * F.sg) (fa : F.fin a) (fb : F.fin b) : (cmpD (F.val a) (F.val b) < 0↔pl F a < pl F b)∧(0 < cmpD (F.val a) (F.val b)↔pl F b < pl F a):=by
 obtain ⟨i1,l1⟩:=ivp F ha fa
 obtain ⟨i2,l2⟩:=ivp F hb fb
 rw [Zou l1 l2,i1,i2,Zus.1,Zus.2]
 unfold pl
 generalize a % F.sg = x
 generalize b % F.sg = y
 have m1 : magN F x < magN F y↔x < y:=⟨fun h => by
  rcases Nat.lt_or_ge x y with q | q
  ·exact q
  ·have:=ZpY F q; omega,ZpZ F⟩
 have m2 : magN F y < magN F x↔y < x:=⟨fun h => by
  rcases Nat.lt_or_ge y x with q | q
  ·exact q
  ·have:=ZpY F q; omega,ZpZ F⟩
 have z0:=Ztz F
 have z1 : 0 < magN F x↔0 < x:=⟨fun h => by
  rcases Nat.eq_zero_or_pos x with q | q
  ·rw [q,z0] at h; exact absurd h (Nat.lt_irrefl _)
  ·exact q,fun h => by have:=ZpZ F h; omega⟩
 have z2 : 0 < magN F y↔0 < y:=⟨fun h => by
  rcases Nat.eq_zero_or_pos y with q | q
  ·rw [q,z0] at h; exact absurd h (Nat.lt_irrefl _)
  ·exact q,fun h => by have:=ZpZ F h; omega⟩
 cases F.ng a <;> cases F.ng b <;> simp <;> omega
def Near (F : Fm) (a b : Nat) : Prop:=a = b∨(F.cls a = 1∧F.cls b = 1)
def Wd (F : Fm) (w : Nat) : Prop:=w < 2 * F.sg∧F.cls w≠5
theorem ZmE (F : Fm) (neg : Bool) {s : Nat} (h : s≤F.i0) : pl F (s + F.sgn neg) = plz F neg s∧Wd F (s + F.sgn neg):=ZFA F neg h
theorem ZtV (F : Fm) {md : Int} (hm : 1≤md∧md≤5) {X b : Dy} (hb : b.m≠0) (s5 s s4 : Bool) :
  (Wd F (ptQ F 5 X s5 b).1∧Wd F (ptQ F md X s b).1∧Wd F (ptQ F 4 X s4 b).1)∧(pl F (ptQ F 5 X s5 b).1≤pl F (ptQ F md X s b).1∧pl F (ptQ F md X s b).1≤pl F (ptQ F 4 X s4 b).1)∧pl F (ptQ F 4 X s4 b).1≤pl F (ptQ F 5 X s5 b).1 + 1:=by
 unfold ptQ
 by_cases h0 : X.m = 0
 ·simp only [if_pos h0]
  have z : ∀ n,pl F (F.sgn n) = 0∧Wd F (F.sgn n):=fun n => by
   have h:=ZmE F n (s:=0) (Nat.zero_le _)
   rw [Nat.zero_add] at h
   refine ⟨h.1.trans ?_,h.2⟩
   unfold plz; cases n <;> rfl
  rw [(z s5).1,(z s).1,(z s4).1]
  exact ⟨⟨(z s5).2,(z s).2,(z s4).2⟩,⟨Int.le_refl _,Int.le_refl _⟩,by decide⟩
 ·simp only [if_neg h0]
  obtain ⟨s0,o,h,m,hs⟩:=ZwQ F h0 hb
  have k5:=Zjw F (md:=5) (by decide) (X.n != b.n) o h m s0
  have k4:=Zjw F (md:=4) (by decide) (X.n != b.n) o h m s0
  have k:=Zjw F hm (X.n != b.n) o h m s0
  simp only at k5 k4 k
  rw [hs md hm,hs 5 (by decide),hs 4 (by decide),(ZmE F _ k5.2.2.2).1,(ZmE F _ k4.2.2.2).1,(ZmE F _ k.2.2.2).1]
  exact ⟨⟨(ZmE F _ k5.2.2.2).2,(ZmE F _ k.2.2.2).2,(ZmE F _ k4.2.2.2).2⟩,⟨k.1,k.2.1⟩,k.2.2.1⟩
theorem ZBk {d : Dy} {L : Int} (hz : Nz d) (hl : LoE d L) (h : iv d L = 0) : d.m = 0:=by
 have:=Zvc hz (b:=⟨false,0,0⟩) ⟨fun _ => rfl,fun h => absurd rfl h⟩ hl (Or.inl rfl) (by rw [h,Zbs rfl])
 rw [this]
theorem ZtH (F : Fm) (md : Int) {X d b : Dy} (nX : Nz X) (nd : Nz d) (nb : Nz b) (d0 : d.m≠0) (b0 : b.m≠0) {K L : Int} (lX : LoE X (K + L)) (ld : LoE d K) (lb : LoE b L) (h : iv X (K + L) = iv d K * iv b L) : quoW F md X b = rndW F md d:=by
 obtain ⟨m1,m2⟩:=ZlB ld lb
 have e : X = mulD d b:=Zvc nX (Zdo d b) lX m2 (by rw [h,m1])
 rw [e]
 obtain ⟨n,m,x⟩:=d
 obtain ⟨n',m',x'⟩:=b
 exact ZBP F md (nd.2 d0) (nb.2 b0)
theorem ZCa (F : Fm) (md : Int) {w : Nat} (hw : w < 2 * F.sg) (hf : F.fin w) (h0 : (F.vl w).m≠0) : rndW F md (F.vl w) = (w,0):=by
 have h5 : F.cls w≠5:=by have:=Zag.1 hf; omega
 have h1:=(Zzg F hw h5).2.1 hf
 have e:=ZCk F hw
 have n0 : w % F.sg≠0:=fun q => by
  rw [q,Nat.zero_add] at e
  apply h0
  rw [e,(ZaE F _).2.2.2]
 have:=(Zla F md (F.ng w) h1 n0).1
 rw [← e] at this
 rw [Zbm hf]; exact this
theorem ZBG {d : Dy} (h : Nz d) : mulD d oneD = d:=by
 by_cases h0 : d.m = 0
 ·rw [Zly (Or.inl h0),h.1 h0]
 ·unfold mulD oneD
  obtain ⟨n,m,e⟩:=d
  simp only [Bool.bne_false,Nat.mul_one,Int.add_zero]
  exact Zob (h.2 h0)
theorem ZGh : LoE oneD 0:=Or.inr (Int.le_refl _)
theorem ZGY : iv oneD 0 = 1:=rfl
theorem ZBi (F : Fm) {md : Int} {a b : Dy} (na : Nz a) (h0 : a.m≠0) (h1 : b.m≠0) (hf : (quoW F md a b).2 = 0) : F.fin (quoW F md a b).1∧(quoW F md a b).1 < 2 * F.sg∧a = mulD (F.vl (quoW F md a b).1) b:=by
 obtain ⟨K,N,kk,u,f1,f2,f3,f4,_,_,_,f5⟩:=ZCH F h0 h1 (Or.inl hf)
 have f5:=f5 hf
 refine ⟨f1,f2,?_⟩
 rw [Zbm f1,f3]
 have lb : LoE b b.e:=Or.inr (Int.le_refl _)
 have lv : LoE (mkD (a.n != b.n) K u) (u - kk):=ZkJ (by omega)
 obtain ⟨m1,m2⟩:=ZlB lv lb
 have la : LoE a (u - kk + b.e):=Or.inr (by omega)
 refine Zvc na (Zdo _ _) la m2 ?_
 rw [m1,ZoF (by omega)]
 unfold iv
 rw [show (a.e - (u - kk + b.e)).toNat = N by omega,show (u - (u - (kk : Int))).toNat = kk by omega,show (b.e - b.e).toNat = 0 by omega,Nat.pow_zero,Nat.mul_one,f5]
 have e : K * b.m * 2 ^ kk = K * 2 ^ kk * b.m:=by rw [Nat.mul_right_comm]
 rw [e,Int.natCast_mul (K * 2 ^ kk)]
 generalize ((K * 2 ^ kk : Nat) : Int) = x
 generalize (b.m : Int) = y
 cases a.n <;> cases b.n <;> simp [Int.neg_mul,Int.mul_neg]
theorem ZBA (F : Fm) {a b : Nat} {L : Int} (la : LoE (F.vl a) L) (lb : LoE (F.vl b) L) (s : Bool) : LoE (tm F a b s).1 (L + L)∧iv (tm F a b s).1 (L + L) = if s then -(iv (F.vl a) L * iv (F.vl b) L) else iv (F.vl a) L * iv (F.vl b) L:=by
 obtain ⟨m1,m2⟩:=ZlB la lb
 unfold tm
 cases s
 ·exact ⟨m2,m1⟩
 ·exact ⟨ZrD m2,by simp only [if_true]; rw [Zwy,m1]⟩
theorem ZGG (F : Fm) {md : Int} (hm : 1≤md∧md≤5) (X : Dy) (s : Bool) {b : Dy} (hb : b.m≠0) : Wd F (ptQ F md X s b).1:=(ZtV F hm (X:=X) hb s s s).1.2.1
theorem Zvq (F : Fm) {md : Int} (hm : 1≤md∧md≤5) {X : Dy} {s : Bool} (nX : Nz X) (h : (ptQ F md X s oneD).2 = 0) : F.fin (ptQ F md X s oneD).1∧F.vl (ptQ F md X s oneD).1 = X:=by
 unfold ptQ at h ⊢
 by_cases h0 : X.m = 0
 ·simp only [if_pos h0]
  obtain ⟨_,_,q3,q4⟩:=ZaE F s
  exact ⟨Zag.2 (Or.inl q3),by rw [q4,nX.1 h0]⟩
 ·rw [if_neg h0] at h
  simp only [if_neg h0]
  obtain ⟨f1,_,f3⟩:=ZBi F nX h0 (show oneD.m≠0 by decide) h
  exact ⟨f1,by rw [ZBG (ZbJ F _)] at f3; exact f3.symm⟩
theorem ZwI (F : Fm) {md : Int} (hm : 1≤md∧md≤5) {w : Nat} (hw : w < 2 * F.sg) (hf : F.fin w) {X b : Dy} (nX : Nz X) (nb : Nz b) (hb : b.m≠0) {K L : Int} (lX : LoE X (K + L)) (ld : LoE (F.vl w) K) (lb : LoE b L) (h : iv X (K + L) = iv (F.vl w) K * iv b L) (s : Bool) : (ptQ F md X s b).2 = 0∧Near F (ptQ F md X s b).1 w:=by
 unfold ptQ
 by_cases h0 : (F.vl w).m = 0
 ·have hX : X.m = 0:=ZBk nX lX (by rw [h,Zbs h0,Int.zero_mul])
  simp only [if_pos hX]
  exact ⟨trivial,Or.inr ⟨(ZaE F s).2.2.1,(ZbO hw hf).2 h0⟩⟩
 ·have hX : X.m≠0:=fun q => by
   rw [Zbs q] at h
   rcases Int.mul_eq_zero.1 h.symm with k | k
   ·exact h0 (ZBk (ZbJ F w) ld k)
   ·exact hb (ZBk nb lb k)
  simp only [if_neg hX]
  rw [ZtH F md nX (ZbJ F w) nb h0 hb lX ld lb h,ZCa F md hw hf h0]
  exact ⟨rfl,Or.inl rfl⟩
theorem back (F : Fm) {md : Int} (hm : 1≤md∧md≤5) {a b c d : Nat} (ha : a < 2 * F.sg) (hb : b < 2 * F.sg) (hc : c < 2 * F.sg) (hd : d < 2 * F.sg) (fa : F.fin a) (fb : F.fin b) (hz : zcl (F.cls c) (F.cls d) = 2) (e1 : (mulR F md a b c d).1.2 = 0) (e2 : (mulR F md a b c d).2.2 = 0) :
  (F.fin (mulR F md a b c d).1.1∧F.fin (mulR F md a b c d).2.1) ∧
  ((divR F md (mulR F md a b c d).1.1 (mulR F md a b c d).2.1 c d).1.2 = 0∧Near F (divR F md (mulR F md a b c d).1.1 (mulR F md a b c d).2.1 c d).1.1 a) ∧
  ((divR F md (mulR F md a b c d).1.1 (mulR F md a b c d).2.1 c d).2.2 = 0∧Near F (divR F md (mulR F md a b c d).1.1 (mulR F md a b c d).2.1 c d).2.1 b):=by
 obtain ⟨fc,fd⟩:=(ZgZ F (a:=c) (b:=d)).2 (by omega)
 have hq:=ZIL F hc hd hz
 obtain ⟨p1,v1⟩:=Zvq F hm (Zgz (ZoE F a c false).2 (ZoE F b d true).2) e1
 obtain ⟨p2,v2⟩:=Zvq F hm (Zgz (ZoE F a d false).2 (ZoE F b c false).2) e2
 have la:=ZkQ fa
 have lb:=ZkQ fb
 have lc:=ZkQ fc
 have ld:=ZkQ fd
 generalize F.low = L at *
 obtain ⟨x1,y1⟩:=ZBA F la lc false
 obtain ⟨x2,y2⟩:=ZBA F lb ld true
 obtain ⟨x3,y3⟩:=ZBA F la ld false
 obtain ⟨x4,y4⟩:=ZBA F lb lc false
 obtain ⟨i1,l1⟩:=ZiS x1 x2
 obtain ⟨i2,l2⟩:=ZiS x3 x4
 rw [y1,y2] at i1
 rw [y3,y4] at i2
 simp only [Bool.false_eq_true,if_false,if_true] at i1 i2
 have sq:=ZHB F lc ld
 have lsq : LoE (sqD F c d) (L + L):=(ZiS (ZlB lc lc).2 (ZlB ld ld).2).2
 rw [show 2 * L = L + L by omega] at sq
 have P : ∀ {p w : Nat} {X : Dy} {s : Bool},F.vl p = X→LoE X (L + L)→LoE (F.vl w) L→LoE (tm F p w s).1 (L + (L + L))∧iv (tm F p w s).1 (L + (L + L)) = if s then -(iv X (L + L) * iv (F.vl w) L) else iv X (L + L) * iv (F.vl w) L:=fun {p w X s} hp lX lw => by
  obtain ⟨m1,m2⟩:=ZlB lX lw
  rw [show L + L + L = L + (L + L) by omega] at m1 m2
  unfold tm
  rw [hp]
  cases s
  ·exact ⟨m2,m1⟩
  ·exact ⟨ZrD m2,by simp only [if_true]; rw [Zwy,m1]⟩
 refine ⟨⟨p1,p2⟩,?_,?_⟩
 ·obtain ⟨q1,r1⟩:=P (s:=false) v1 l1 lc
  obtain ⟨q2,r2⟩:=P (s:=false) v2 l2 ld
  obtain ⟨i3,l3⟩:=ZiS q1 q2
  refine ZwI F hm ha fa (Zgz (ZoE F _ _ _).2 (ZoE F _ _ _).2) (ZFq F c d) hq l3 la lsq ?_ _
  rw [i3,r1,r2,i1,i2,sq]
  simp only [Bool.false_eq_true,if_false]
  generalize iv (F.vl a) L = x
  generalize iv (F.vl b) L = y
  generalize iv (F.vl c) L = z
  generalize iv (F.vl d) L = w
  grind
 ·obtain ⟨q1,r1⟩:=P (s:=false) v2 l2 lc
  obtain ⟨q2,r2⟩:=P (s:=true) v1 l1 ld
  obtain ⟨i3,l3⟩:=ZiS q1 q2
  refine ZwI F hm hb fb (Zgz (ZoE F _ _ _).2 (ZoE F _ _ _).2) (ZFq F c d) hq l3 lb lsq ?_ _
  rw [i3,r1,r2,i1,i2,sq]
  simp only [Bool.false_eq_true,if_false,if_true]
  generalize iv (F.vl a) L = x
  generalize iv (F.vl b) L = y
  generalize iv (F.vl c) L = z
  generalize iv (F.vl d) L = w
  grind
def intD (n : Int) : Dy:=mkD (decide (n < 0)) n.natAbs 0
theorem ZBW {n : Int} (h : -9223372036854775808≤n) (h0 : n < 0) : (0 - n % 18446744073709551616) % 18446744073709551616 = (n.natAbs : Int):=by omega
theorem ZBQ {n : Int} (h : n≤9223372036854775807) (h0 : ¬ n < 0) : n % 18446744073709551616 = (n.natAbs : Int):=by omega
theorem Znc (J : Al G T g) {n : Int} (h1 : -9223372036854775808≤n) (h2 : n≤9223372036854775807) : ∃ z,run G T 20 [.int .i64 n] = some (DyA z (intD n)):=by
 apply exP
 rw [Zab G T J.C.Znc]
 obtain ⟨z1,r1⟩:=Ziz J (n:=n.natAbs) (by omega)
 have hl : (dl n.natAbs).length < 17179869184:=by
  have h1:=Zaa n.natAbs
  have h2 : blen n.natAbs≤64:=Zaf.2 (by rw [show (2 : Nat) ^ 64 = 18446744073709551616 from rfl]; omega)
  omega
 obtain ⟨z2,r2⟩:=ZaI J (n:=decide (n < 0)) (z:=z1) (a:=n.natAbs) (e:=0) hl (by omega)
 unfold intD
 generalize mkD (decide (n < 0)) n.natAbs 0 = d at *
 by_cases h : n < 0
 ·have w1:=ZBW h1 h
  rw [decide_eq_true h] at r2
  generalize dl n.natAbs = l at *
  generalize (n.natAbs : Int) = m at *
  simp only [DyA,A3] at *
  repeat' (first|simp (maxSteps:=9^7) only [seval,exC,Zfe,w1,h,r1,r2]|simp (maxSteps:=9^7) (disch:=first|with_reducible assumption|omega) only [dxB]|(simp only [kdB];split)|(simp only [kvB];split))
  all_goals exact ⟨_,rfl,z2,rfl⟩
 ·have w1:=ZBQ h2 h
  rw [decide_eq_false h] at r2
  generalize dl n.natAbs = l at *
  generalize (n.natAbs : Int) = m at *
  simp only [DyA,A3] at *
  repeat' (first|simp (maxSteps:=9^7) only [seval,exC,Zfe,w1,h,r1,r2]|simp (maxSteps:=9^7) (disch:=first|with_reducible assumption|omega) only [dxB]|(simp only [kdB];split)|(simp only [kvB];split))
  all_goals exact ⟨_,rfl,z2,rfl⟩
end Go.Cv
namespace Go.Cv
variable {G : Nat→Option (List AV)} {T : Tbl} {g : Nat}
section
variable (b : Nat) (k : IntKind)
end
end Go.Cv
namespace Go.Cv
def scaW (F : Fm) (md : Int) (w : Nat) (n : Int) : Nat × Nat:=if F.cls w = 5 then (F.nan,0) else if F.cls w = 4∨F.cls w = 1 then (w,0) else rndW F md (shD (F.vl w) n)
def uA (F : Fm) (a b : Nat) : Nat:=(addW F 4 a b).1
def uM (F : Fm) (a b : Nat) : Nat:=(mulW2 F 4 a b).1
noncomputable def uN (F : Fm) (p : Nat × Nat) : Nat:=(absZ F 4 p.1 p.2).1
def uS (F : Fm) (w : Nat) : Nat:=(scaW F 4 w (-(F.fr + 1 : Nat))).1
def zM (F : Fm) (y z : Nat × Nat) : Nat × Nat:=((mulZ F 1 y.1 y.2 z.1 z.2).1.1,(mulZ F 1 y.1 y.2 z.1 z.2).2.1)
def zP (F : Fm) (p a : Nat × Nat) : Nat × Nat:=((addW F 1 p.1 a.1).1,(addW F 1 p.2 a.2).1)
noncomputable def stE (F : Fm) (z : Nat × Nat) (s : (Nat × Nat) × Nat) (a : Nat × Nat) : (Nat × Nat) × Nat :=
 (zP F (zM F s.1 z) a,uA F (uM F s.2 (uN F z)) (uA F (uS F (uA F (uN F (zM F s.1 z)) (uN F (zP F (zM F s.1 z) a)))) 2))
noncomputable def pE (F : Fm) (z : Nat × Nat) : List (Nat × Nat)→(Nat × Nat) × Nat
 | [] => ((0,0),0)
 | [a] => (a,0)
 | a :: b :: l => stE F z (pE F z (b :: l)) a
noncomputable def bdE (F : Fm) (s : (Nat × Nat) × Nat) : Nat:=if F.fin s.1.1∧F.fin s.1.2∧F.fin s.2 then s.2 else F.inf false
def Zw (F : Fm) (p : Nat × Nat) : Prop:=p.1 < 2 * F.sg∧p.2 < 2 * F.sg
def Zf (F : Fm) (p : Nat × Nat) : Prop:=F.fin p.1∧F.fin p.2
theorem ZjF (F : Fm) {md : Int} (hm : 1≤md∧md≤5) {a b : Nat} : (addW F md a b).1 < 2 * F.sg:=by
 unfold addW addP
 repeat' split
 ·exact ZpL F
 ·exact ZpL F
 ·exact Zpx F _
 ·exact Zpx F _
 ·exact (ZaE F _).1
 ·exact ZuF F hm _
theorem Zst (F : Fm) {md : Int} (hm : 1≤md∧md≤5) {a b : Nat} : (mulW2 F md a b).1 < 2 * F.sg:=by
 unfold mulW2 mulP
 repeat' split
 ·exact ZpL F
 ·exact ZpL F
 ·exact Zpx F _
 ·exact (ZaE F _).1
 ·exact ZuF F hm _
theorem ZAt (F : Fm) {md : Int} (hm : 1≤md∧md≤5) (d : Dy) : (rndW F md d).1 < 2 * F.sg:=by
 have z0 : (0 : Nat) < 2 * F.sg:=by cases F <;> decide
 by_cases h : d.m = 0
 ·unfold rndW; rw [if_pos h]; exact z0
 ·have:=ZuF F hm d
  unfold sumW at this; rw [if_neg h] at this; exact this
theorem Zyp (F : Fm) {md : Int} (hm : 1≤md∧md≤5) {w : Nat} (hw : w < 2 * F.sg) (n : Int) : (scaW F md w n).1 < 2 * F.sg:=by
 unfold scaW
 repeat' split
 ·exact ZpL F
 ·exact hw
 ·exact ZAt F hm _
theorem Zup (F : Fm) (p : Nat × Nat) : uN F p < 2 * F.sg:=by
 unfold uN absZ toldW
 repeat' split
 ·exact Zpx F _
 ·exact ZpL F
 ·exact (ZIA F (ZDe F _ _)).1
theorem zM_w (F : Fm) (y z : Nat × Nat) : Zw F (zM F y z):=by
 unfold zM mulZ
 split
 ·exact ZHD F 1 _ _ _ _
 ·exact ⟨(ZGG F (by decide) _ _ (show oneD.m≠0 by decide)).1,(ZGG F (by decide) _ _ (show oneD.m≠0 by decide)).1⟩
theorem zP_w (F : Fm) (p a : Nat × Nat) : Zw F (zP F p a):=⟨ZjF F (by decide),ZjF F (by decide)⟩
theorem pE_w (F : Fm) (z : Nat × Nat) : ∀ (l : List (Nat × Nat)),(∀ a ∈ l,Zw F a)→Zw F (pE F z l).1∧(pE F z l).2 < 2 * F.sg
 | [],_ => by
  have z0 : (0 : Nat) < 2 * F.sg:=by cases F <;> decide
  exact ⟨⟨z0,z0⟩,z0⟩
 | [a],h => by
  have z0 : (0 : Nat) < 2 * F.sg:=by cases F <;> decide
  exact ⟨h a (List.mem_cons_self ..),z0⟩
 | a :: b :: l,h => ⟨zP_w F _ _,ZjF F (by decide)⟩
theorem ZmC (F : Fm) : ¬ F.fin F.nan:=by cases F <;> decide
theorem ZrH (F : Fm) (n : Bool) : ¬ F.fin (F.inf n):=by cases F <;> cases n <;> decide
theorem Zpf (F : Fm) (md : Int) {a b : Nat} (h : F.fin (addW F md a b).1) : F.fin a∧F.fin b:=by
 have ra:=ZaN F a
 have rb:=ZaN F b
 rw [Zag,Zag]
 unfold addW addP at h
 split at h
 ·exact absurd h (ZmC F)
 ·split at h
  ·exact absurd h (ZmC F)
  ·split at h
   ·exact absurd h (ZrH F _)
   ·split at h
    ·exact absurd h (ZrH F _)
    ·omega
theorem ZvB (F : Fm) (md : Int) {a b : Nat} (h : F.fin (mulW2 F md a b).1) : F.fin a∧F.fin b:=by
 have ra:=ZaN F a
 have rb:=ZaN F b
 rw [Zag,Zag]
 unfold mulW2 mulP at h
 split at h
 ·exact absurd h (ZmC F)
 ·split at h
  ·exact absurd h (ZmC F)
  ·split at h
   ·exact absurd h (ZrH F _)
   ·omega
theorem ZvU (F : Fm) (md : Int) {w : Nat} {n : Int} (h : F.fin (scaW F md w n).1) : F.fin w:=by
 have rw':=ZaN F w
 unfold scaW at h
 split at h
 ·exact absurd h (ZmC F)
 ·split at h
  ·exact h
  ·rw [Zag]; omega
theorem ZAq (F : Fm) {p : Nat × Nat} (h : F.fin (uN F p)) : Zf F p:=by
 have hz:=Zlg F p.1 p.2
 unfold uN absZ toldW at h
 split at h
 ·exact absurd h (ZrH F _)
 ·split at h
  ·exact absurd h (ZmC F)
  ·exact (ZgZ F).2 (by omega)
theorem ZGU (F : Fm) : (2 : Nat) < 2 * F.sg∧F.fin 2∧F.vl 2 = ⟨false,1,F.low + 1⟩:=by
 have m:=ZlR (n:=false) (m:=1) (e:=F.low + 1) (by decide) 1
 rw [show (1 * 2 ^ 1 : Nat) = 2 from rfl,show F.low + 1 - ((1 : Nat) : Int) = F.low by omega] at m
 have f : F.fin 2:=by cases F <;> decide
 refine ⟨by cases F <;> decide,f,?_⟩
 rw [Zbm f,← m]
 cases F <;> rfl
theorem Zyf (F : Fm) {z : Nat × Nat} {s : (Nat × Nat) × Nat} {a : Nat × Nat} (h : F.fin (stE F z s a).2) :
  F.fin (uM F s.2 (uN F z))∧F.fin s.2∧F.fin (uN F z)∧F.fin (uA F (uS F (uA F (uN F (zM F s.1 z)) (uN F (zP F (zM F s.1 z) a)))) 2)∧F.fin (uS F (uA F (uN F (zM F s.1 z)) (uN F (zP F (zM F s.1 z) a))))∧F.fin (uA F (uN F (zM F s.1 z)) (uN F (zP F (zM F s.1 z) a)))∧F.fin (uN F (zM F s.1 z))∧F.fin (uN F (zP F (zM F s.1 z) a))∧Zf F (zM F s.1 z)∧Zf F (zP F (zM F s.1 z) a):=by
 obtain ⟨h1,h2⟩:=Zpf F 4 (show F.fin (addW F 4 _ _).1 from h)
 obtain ⟨h3,h4⟩:=ZvB F 4 (show F.fin (mulW2 F 4 _ _).1 from h1)
 obtain ⟨h5,_⟩:=Zpf F 4 (show F.fin (addW F 4 _ _).1 from h2)
 have h6:=ZvU F 4 (show F.fin (scaW F 4 _ _).1 from h5)
 obtain ⟨h7,h8⟩:=Zpf F 4 (show F.fin (addW F 4 _ _).1 from h6)
 exact ⟨h1,h3,h4,h2,h5,h6,h7,h8,ZAq F h7,ZAq F h8⟩
theorem ZFi {d : Dy} (h : Nz d) (n : Int) : Nz (shD d n):=by
 unfold shD
 by_cases h0 : d.m = 0
 ·rw [if_pos h0]; exact h
 ·rw [if_neg h0]; exact ⟨fun q => absurd q h0,fun _ => h.2 h0⟩
def zcells : List (Nat × Nat)→List AV
 | [] => []
 | p :: l => .int .u64 (p.1 : Int) :: .int .u64 (p.2 : Int) :: zcells l
def ZL (z : Bool) (l : List (Nat × Nat)) : AV:=if z = true∧l = [] then .nil else .imm l.length (zcells l)
theorem ZqZ : ∀ (l : List (Nat × Nat)) (j : Nat),(zcells l)[j]? = (l[j / 2]?).map fun p => AV.int .u64 ((if j % 2 = 0 then p.1 else p.2 : Nat) : Int)
 | [],j => by simp [zcells]
 | p :: l,0 => by simp [zcells]
 | p :: l,1 => by simp [zcells]
 | p :: l,j + 2 => by
  rw [zcells,List.getElem?_cons_succ,List.getElem?_cons_succ,ZqZ l j,show (j + 2) / 2 = j / 2 + 1 by omega,List.getElem?_cons_succ,show (j + 2) % 2 = j % 2 by omega]
end Go.Cv
namespace Go.Cv
theorem ZxO {x : Dy} {L : Int} (hz : Nz x) (hl : LoE x L) (h : 0≤iv x L) : x.n = false:=by
 by_cases h0 : x.m = 0
 ·rw [hz.1 h0]
 ·cases hn : x.n with
  | false => rfl
  | true =>
   exfalso
   unfold iv at h
   rw [hn] at h
   have:=Nat.mul_pos (Nat.pos_of_ne_zero h0) (Nat.two_pow_pos (x.e - L).toNat)
   simp only [if_true] at h
   omega
theorem Zrv {x : Dy} (L : Int) (h : x.n = false) : 0≤iv x L:=by unfold iv; rw [h]; simp only [Bool.false_eq_true,if_false,Int.one_mul]; exact Int.natCast_nonneg _
theorem LoEv {F : Fm} {w : Nat} (hf : F.fin w) {L : Int} (h : L≤-2000) : LoE (F.vl w) L:=(ZkQ hf).mono (by have:=Zba F; omega)
theorem ZHn {d : Dy} {K : Int} (h : LoE d K) (h0 : d.m≠0) : K≤d.e:=h.resolve_left h0
end Go.Cv
namespace Go.Cv
end Go.Cv
namespace Go.Cv
variable {G : Nat→Option (List AV)} {T : Tbl} {g : Nat}
theorem ZpJ (J : Al G T g) (hP : HasK g T) (F : Fm) {md : Int} (hm : 1≤md∧md≤5) : run G T 404 [.int .u8 F.u,.int .u8 md] = some (.int .i64 0):=by
 rw [Zab G T hP.ZpJ]
 have o1:=Zec J F hm (neg:=false)
 repeat' (first|simp (maxSteps:=9^7) only [seval,exC,ZkA,o1]|simp (maxSteps:=9^7) (disch:=first|with_reducible assumption|omega) only [dxB]|(simp only [kdB];split)|(simp only [kvB];split))
theorem ZpU (J : Al G T g) (hP : HasK g T) (F : Fm) {md : Int} (hm : 1≤md∧md≤5) {w : Nat} (hw : w < 2 * F.sg) : run G T 399 [.int .u8 F.u,.int .u8 md,.int .u64 (w : Int)] = some (.tup [.int .u8 (F.cls w),.bool (F.ng w),.int .i64 0]):=by
 rw [Zab G T hP.ZpU]
 have o1:=ZpJ J hP F hm
 have c1:=Zbl J F hw
 have s1:=Zfm J F hw
 generalize F.cls w = c at *
 generalize F.ng w = n at *
 generalize F.ex w = x at *
 generalize F.fc w = y at *
 simp only [fldA] at *
 repeat' (first|simp (maxSteps:=9^7) only [seval,exC,Zkx,o1,c1,s1]|simp (maxSteps:=9^7) (disch:=first|with_reducible assumption|omega) only [dxB]|(simp only [kdB];split)|(simp only [kvB];split))
theorem Zog (J : Al G T g) (hP : HasK g T) {z : Bool} {d : Dy} (nz : Nz d) (hd : Bd d 8192) {n : Int} (hn : -8192≤n∧n≤8192) : ∃ z',run G T 400 [DyA z d,.int .i64 n] = some (.tup [DyA z' (shD d n),.int .i64 0]):=by
 rw [Zab G T hP.Zog]
 have m1:=Zdb J d.n z (Zaq d.m) d.e
 rw [ZaL nz (hd.mono (by decide))] at m1
 have hl:=Zaa d.m
 obtain ⟨b1,b2,b3⟩:=hd
 unfold shD
 by_cases h0 : d.m = 0
 ·rw [if_pos h0]
  have hd0:=nz.1 h0
  refine ⟨true,?_⟩
  have l0 : ((dl d.m).length : Int) = 0:=by rw [h0,Zaj]; rfl
  rw [hd0] at m1 l0 ⊢
  simp only [DyA,A3,Zaj] at *
  repeat' (first|simp (maxSteps:=9^7) only [seval,exC,Zgq,m1,l0,ZtD]|simp (maxSteps:=9^7) (disch:=first|with_reducible assumption|omega) only [dxB]|(simp only [kdB];split)|(simp only [kvB];split))
 ·rw [if_neg h0]
  have l0 : ¬ ((dl d.m).length : Int) = 0:=by
   have : (dl d.m).length≠0:=fun q => h0 (by have:=Zap (a:=d.m); first | exact this.1 q | (rw [List.length_eq_zero_iff] at q; have:=Zay d.m; rw [q] at this; exact this.symm))
   omega
  obtain ⟨z',o1⟩:=ZlN J (n:=d.n) (z:=z) (l:=dl d.m) (e:=d.e) (by omega)
  refine ⟨z',?_⟩
  have w1 : IntKind.i64.wrap (16777216 - d.e) = 16777216 - d.e:=Zac (by omega)
  have w2 : IntKind.i64.wrap (-16777216 - d.e) = -16777216 - d.e:=Zac (by omega)
  have w3 : IntKind.i64.wrap (d.e + n) = d.e + n:=Zac (by omega)
  have t1 : ¬ 16777216 - d.e < n:=by omega
  have t2 : ¬ n < -16777216 - d.e:=by omega
  simp only [DyA,A3] at *
  repeat' (first|simp (maxSteps:=9^7) only [seval,exC,Zgq,m1,l0,w1,w2,w3,t1,t2,o1]|simp (maxSteps:=9^7) (disch:=first|with_reducible assumption|omega) only [dxB]|(simp only [kdB];split)|(simp only [kvB];split))
theorem Zvp (F : Fm) (w : Nat) : Bd (F.vl w) 2048:=by
 by_cases h1 : (F.vl w).m = 0
 ·rw [(ZbJ F w).1 h1]; exact ⟨by simp only [Zai]; omega,by simp,by simp⟩
 ·have hF:=Zba F
  have fa : F.fin w:=by
   by_cases h : F.fin w
   ·exact h
   ·exfalso; apply h1; unfold Fm.vl; rw [if_neg h]
  have e1:=ZlK F fa (by rw [← Zbm fa]; exact h1)
  rw [← Zbm fa] at e1
  obtain ⟨_,a1,a2,a3⟩:=e1
  exact ⟨by omega,by omega,by omega⟩
theorem ZDP {d : Dy} {K : Nat} (h : Bd d K) {n : Int} (hn : -(K : Int)≤n∧n≤K) : Bd (shD d n) (2 * K):=by
 obtain ⟨h1,h2,h3⟩:=h
 unfold shD
 split
 ·exact ⟨by omega,by omega,by omega⟩
 ·exact ⟨by simp only; omega,by simp only; omega,by simp only; omega⟩
theorem Zoh (J : Al G T g) (hP : HasK g T) (F : Fm) {md : Int} (hm : 1≤md∧md≤5) {w : Nat} (hw : w < 2 * F.sg) {n : Int} (hn : -2048≤n∧n≤2048) : run G T 393 [.int .u8 F.u,.int .u8 md,.int .u64 (w : Int),.int .i64 n] = some (.tup [.int .u64 ((scaW F md w n).1 : Int),.int .u8 ((scaW F md w n).2 : Int),.int .i64 0]):=by
 rw [Zab G T hP.Zoh]
 have o1:=ZpU J hP F hm hw
 unfold scaW
 by_cases h5 : F.cls w = 5
 ·rw [if_pos h5]
  rw [h5] at o1
  have n1:=Zgg J F
  generalize F.ng w = x at *
  generalize F.nan = y at *
  simp only [cast0]
  repeat' (first|simp (maxSteps:=9^7) only [seval,exC,ZcF,o1,n1]|simp (maxSteps:=9^7) (disch:=first|with_reducible assumption|omega) only [dxB]|(simp only [kdB];split)|(simp only [kvB];split))
 ·rw [if_neg h5]
  by_cases h4 : F.cls w = 4∨F.cls w = 1
  ·rw [if_pos h4]
   generalize F.ng w = x at *
   generalize F.cls w = c at *
   simp only [cast0]
   by_cases c4 : c = 4
   ·repeat' (first|simp (maxSteps:=9^7) only [seval,exC,ZcF,o1,h5,c4]|simp (maxSteps:=9^7) (disch:=first|with_reducible assumption|omega) only [dxB]|(simp only [kdB];split)|(simp only [kvB];split))
   ·have c1 : c = 1:=by omega
    repeat' (first|simp (maxSteps:=9^7) only [seval,exC,ZcF,o1,h5,c4,c1]|simp (maxSteps:=9^7) (disch:=first|with_reducible assumption|omega) only [dxB]|(simp only [kdB];split)|(simp only [kvB];split))
  ·rw [if_neg h4]
   obtain ⟨z,k,v1⟩:=Zcs J F hw
   obtain ⟨z2,s1⟩:=Zog J hP (z:=z) (d:=F.vl w) (ZbJ F w) ((Zvp F w).mono (by decide)) (n:=n) (by omega)
   have r1:=Zht J F hm (z:=z2) (ZaL (ZFi (ZbJ F w) n) ((ZDP (Zvp F w) (n:=n) (by omega)).mono (by decide)))
   have m1 : max (-16384) n = n:=by omega
   have m2 : min 16384 n = n:=by omega
   generalize rndW F md (shD (F.vl w) n) = R at *
   generalize shD (F.vl w) n = d at *
   generalize F.vl w = e at *
   generalize F.ng w = x at *
   generalize F.cls w = c at *
   have c4 : ¬ c = 4:=fun h => h4 (Or.inl h)
   have c1 : ¬ c = 1:=fun h => h4 (Or.inr h)
   simp only [DyA,A3] at *
   repeat' (first|simp (maxSteps:=9^7) only [seval,exC,ZcF,o1,h5,c4,c1,v1,m1,m2,s1,r1]|simp (maxSteps:=9^7) (disch:=first|with_reducible assumption|omega) only [dxB]|(simp only [kdB];split)|(simp only [kvB];split))
theorem Zmw (J : Al G T g) (hP : HasK g T) (F : Fm) {md : Int} (hm : 1≤md∧md≤5) {w : Nat} (hw : w < 2 * F.sg) {n : Int} (hn : -2048≤n∧n≤2048) : run G T 394 [.int .u8 F.u,.int .u8 md,.int .u64 (w : Int),.int .i64 n] = some (.tup [.int .u64 ((scaW F md w n).1 : Int),.int .u8 ((scaW F md w n).2 : Int)]):=by
 rw [Zab G T hP.Zmw]
 have o1:=Zav J F (Zce hw)
 unfold scaW
 by_cases h5 : F.cls w = 5
 ·rw [if_pos h5]
  rw [h5] at o1
  have n1:=Zft J F
  generalize F.nan = y at *
  simp only [cast0]
  repeat' (first|simp (maxSteps:=9^7) only [seval,exC,Zcd,o1,n1]|simp (maxSteps:=9^7) (disch:=first|with_reducible assumption|omega) only [dxB]|(simp only [kdB];split)|(simp only [kvB];split))
 ·rw [if_neg h5]
  by_cases h4 : F.cls w = 4∨F.cls w = 1
  ·rw [if_pos h4]
   generalize F.cls w = c at *
   simp only [cast0]
   by_cases c4 : c = 4
   ·repeat' (first|simp (maxSteps:=9^7) only [seval,exC,Zcd,o1,h5,c4]|simp (maxSteps:=9^7) (disch:=first|with_reducible assumption|omega) only [dxB]|(simp only [kdB];split)|(simp only [kvB];split))
   ·have c1 : c = 1:=by omega
    repeat' (first|simp (maxSteps:=9^7) only [seval,exC,Zcd,o1,h5,c4,c1]|simp (maxSteps:=9^7) (disch:=first|with_reducible assumption|omega) only [dxB]|(simp only [kdB];split)|(simp only [kvB];split))
  ·rw [if_neg h4]
   have cr:=ZaN F w
   have fw : F.fin w:=Zag.2 (by omega)
   obtain ⟨z,v1⟩:=Zbo J F (Zce hw) fw
   rw [← Zbm fw] at v1
   obtain ⟨b1,b2,b3⟩:=Zvp F w
   have s1:=ZdG J (z:=z) (d:=F.vl w) (k:=n) (by omega) (by omega)
   have r1:=ZcE J F hm (z:=z) (ZFi (ZbJ F w) n) ((ZDP (Zvp F w) (n:=n) (by omega)).mono (by decide))
   have m1 : ¬ 10000 < n:=by omega
   have m2 : ¬ n < -10000:=by omega
   generalize rndW F md (shD (F.vl w) n) = R at *
   generalize shD (F.vl w) n = d at *
   generalize F.vl w = e at *
   generalize F.cls w = c at *
   have c4 : ¬ c = 4:=fun h => h4 (Or.inl h)
   have c1 : ¬ c = 1:=fun h => h4 (Or.inr h)
   simp only [DyA,A3] at *
   repeat' (first|simp (maxSteps:=9^7) only [seval,exC,Zcd,o1,h5,c4,c1,v1,m1,m2,s1,r1]|simp (maxSteps:=9^7) (disch:=first|with_reducible assumption|omega) only [dxB]|(simp only [kdB];split)|(simp only [kvB];split))
end Go.Cv
namespace Go.Cv
variable {G : Nat→Option (List AV)} {T : Tbl} {g : Nat}
section
variable {α : Type} (bs L : List α) (v : α)
theorem ga0 : (bs ++ L)[bs.length]? = L[0]?:=by rw [List.getElem?_append_right (Nat.le_refl _),Nat.sub_self]
theorem ga1 : (bs ++ L)[bs.length + 1]? = L[1]?:=by rw [List.getElem?_append_right (Nat.le_add_right ..),Nat.add_sub_cancel_left]
theorem ga2 : (bs ++ L)[bs.length + 2]? = L[2]?:=by rw [List.getElem?_append_right (Nat.le_add_right ..),Nat.add_sub_cancel_left]
theorem ga3 : (bs ++ L)[bs.length + 3]? = L[3]?:=by rw [List.getElem?_append_right (Nat.le_add_right ..),Nat.add_sub_cancel_left]
theorem ga4 : (bs ++ L)[bs.length + 4]? = L[4]?:=by rw [List.getElem?_append_right (Nat.le_add_right ..),Nat.add_sub_cancel_left]
theorem gs0 : (bs ++ L).set bs.length v = bs ++ L.set 0 v:=by rw [List.set_append_right _ _ (Nat.le_refl _),Nat.sub_self]
theorem gs1 : (bs ++ L).set (bs.length + 1) v = bs ++ L.set 1 v:=by rw [List.set_append_right _ _ (Nat.le_add_right ..),Nat.add_sub_cancel_left]
theorem gs2 : (bs ++ L).set (bs.length + 2) v = bs ++ L.set 2 v:=by rw [List.set_append_right _ _ (Nat.le_add_right ..),Nat.add_sub_cancel_left]
theorem gs3 : (bs ++ L).set (bs.length + 3) v = bs ++ L.set 3 v:=by rw [List.set_append_right _ _ (Nat.le_add_right ..),Nat.add_sub_cancel_left]
theorem gs4 : (bs ++ L).set (bs.length + 4) v = bs ++ L.set 4 v:=by rw [List.set_append_right _ _ (Nat.le_add_right ..),Nat.add_sub_cancel_left]
theorem gap (K : List α) : bs ++ L ++ K = bs ++ (L ++ K):=List.append_assoc ..
theorem gal : (bs ++ L).length = bs.length + L.length:=List.length_append
end
theorem gaB {α : Type} : type_of% (And.intro (And.intro (And.intro (@ga0 α) (And.intro (@ga1 α) (@ga2 α))) (And.intro (@ga3 α) (@ga4 α))) (And.intro (And.intro (@gs0 α) (And.intro (@gs1 α) (@gs2 α))) (And.intro (And.intro (@gs3 α) (@gs4 α)) (And.intro (@gap α) (@gal α))))):=And.intro (And.intro (And.intro (@ga0 α) (And.intro (@ga1 α) (@ga2 α))) (And.intro (@ga3 α) (@ga4 α))) (And.intro (And.intro (@gs0 α) (And.intro (@gs1 α) (@gs2 α))) (And.intro (And.intro (@gs3 α) (@gs4 α)) (And.intro (@gap α) (@gal α))))
theorem Zau : ∀ l : List (Nat × Nat),(zcells l).length = l.length * 2
 | [] => rfl
 | p :: l => by rw [zcells,List.length_cons,List.length_cons,List.length_cons,Zau l]; omega
def zc (l : List (Nat × Nat)) (i : Nat) : Nat × Nat:=l.getD i (0,0)
theorem ZFE {l : List (Nat × Nat)} {i : Nat} (h : i < l.length) : zc l i = l[i]:=by unfold zc; rw [List.getD_eq_getElem?_getD,List.getElem?_eq_getElem h]; rfl
theorem Zms {l : List (Nat × Nat)} {i : Nat} (h : i < l.length) : zc l i ∈ l:=by rw [ZFE h]; exact List.getElem_mem h
theorem ZjO {l : List (Nat × Nat)} {i : Nat} (h : i < l.length) : l.drop i = zc l i :: l.drop (i + 1):=by rw [ZFE h]; exact List.drop_eq_getElem_cons h
theorem Zos : ∀ a b : List (Nat × Nat),zcells (a ++ b) = zcells a ++ zcells b
 | [],b => rfl
 | p :: a,b => by rw [List.cons_append,zcells,zcells,Zos a b]; rfl
theorem Zks : ∀ (l : List (Nat × Nat)) (i : Nat),(zcells l).drop (i * 2) = zcells (l.drop i)
 | l,0 => rfl
 | [],i + 1 => by simp [zcells]
 | p :: l,i + 1 => by
  rw [zcells,List.drop_succ_cons,← Zks l i,show (i + 1) * 2 = i * 2 + 1 + 1 by omega,List.drop_succ_cons,List.drop_succ_cons]
theorem ZnP {l : List (Nat × Nat)} {i : Nat} (h : i < l.length) : ((zcells l).drop (i * 2)).take 2 = [.int .u64 ((zc l i).1 : Int),.int .u64 ((zc l i).2 : Int)]:=by
 rw [Zks,ZjO h]; rfl
theorem ZBw {z : Bool} {l : List (Nat × Nat)} (h : l≠[]) : ZL z l = .imm l.length (zcells l):=by unfold ZL; rw [if_neg (fun q => h q.2)]
theorem ZDW (z : Bool) (l : List (Nat × Nat)) : lenA (ZL z l) = some l.length:=by
 unfold ZL
 split
 ·next h => rw [h.2]; rfl
 ·rfl
theorem sn_Z (g : Nat→Nat→Nat→Nat→Option AV) (z : Bool) (l : List (Nat × Nat)) : snapA g (ZL z l) = some (ZL z l):=by
 unfold ZL
 split
 ·exact ZsQ g
 ·exact Zwk g _ _
theorem Zgx {z : Bool} {l : List (Nat × Nat)} {k : IntKind} {j : Int} (h : 0≤j∧j.toNat < l.length) : iaddrV 2 (ZL z l) (.int k j) = some (.iptr (zcells l) (j.toNat * 2)):=by
 rw [ZBw (by rintro rfl; exact absurd h.2 (Nat.not_lt_zero _)),iaddrV,if_pos ⟨h.1,by omega,by decide,Zau l⟩]
theorem rd_Z (m : Mem) {l : List (Nat × Nat)} {i : Nat} (h : i < l.length) : rdAt G m 2 (.iptr (zcells l) (i * 2)) = some [.int .u64 ((zc l i).1 : Int),.int .u64 ((zc l i).2 : Int)]:=by
 rw [rdAt,if_pos (by rw [Zau]; omega),ZnP h]
theorem ZFR (m : Mem) {l : List (Nat × Nat)} {i : Nat} (h : i < l.length) : rdAt G m 1 (.iptr (zcells l) (i * 2 + 0)) = some [.int .u64 ((zc l i).1 : Int)]:=by
 rw [rdAt,if_pos (by rw [Zau]; omega),Nat.add_zero,Zks,ZjO h]; rfl
theorem ZGI (m : Mem) {l : List (Nat × Nat)} {i : Nat} (h : i < l.length) : rdAt G m 1 (.iptr (zcells l) (i * 2)) = some [.int .u64 ((zc l i).1 : Int)]:=ZFR m h
theorem ZGm (m : Mem) {l : List (Nat × Nat)} {i : Nat} (h : i < l.length) : rdAt G m 1 (.iptr (zcells l) (i * 2 + 1)) = some [.int .u64 ((zc l i).2 : Int)]:=by
 rw [rdAt,if_pos (by rw [Zau]; omega),← List.drop_drop,Zks,ZjO h]; rfl
theorem ZHq (z : Bool) (l : List (Nat × Nat)) : okCell (ZL z l) = true:=by unfold ZL; split <;> rfl
theorem ca_Z (z : Bool) (l : List (Nat × Nat)) : cellsA (ZL z l) = [ZL z l]:=by unfold ZL; split <;> rfl
theorem rl_Z (gg : Nat→List Nat) (z : Bool) (m : List (Nat × Nat)) (l : List AV) : reachL gg (ZL z m :: l) = reachL gg l:=by
 unfold ZL
 split
 ·exact Zva gg l
 ·exact ZAH gg _ _ l
theorem ZHY (h : Mem) (r : AV) (z : Bool) (m : List (Nat × Nat)) (args : List AV) : frz h r (ZL z m :: args) = frz h r args:=by
 unfold ZL
 split
 ·exact ZrA h r args
 ·exact ZuW h r _ _ args
theorem ZB : type_of% (And.intro (And.intro @ZDW @sn_Z) (And.intro (And.intro @ZHq @ca_Z) (And.intro @rl_Z @ZHY))):=And.intro (And.intro @ZDW @sn_Z) (And.intro (And.intro @ZHq @ca_Z) (And.intro @rl_Z @ZHY))
theorem ZpD (e : Env) (h : Heap) : evL G T ZbI e h = kS G T (evL G T ZbF (keepE [0,5,9,27,28,29] e) h) ZbI:=Zae G T rfl e h
theorem ZEs {F : Fm} {a : Nat × Nat} : Zf F a↔zcl (F.cls a.1) (F.cls a.2)≤2:=ZgZ F
def W64 (l : List (Nat × Nat)) : Prop:=∀ a ∈ l,a.1 < 18446744073709551616∧a.2 < 18446744073709551616
def Zws (F : Fm) (l : List (Nat × Nat)) : Prop:=∀ a ∈ l,Zw F a
def Zfs (F : Fm) (l : List (Nat × Nat)) : Prop:=∀ a ∈ l,Zf F a
theorem Zvf {F : Fm} {a : Nat × Nat} {l : List (Nat × Nat)} : Zws F (a :: l)↔Zw F a∧Zws F l:=List.forall_mem_cons
theorem Zwj {F : Fm} {a : Nat × Nat} {l : List (Nat × Nat)} : Zfs F (a :: l)↔Zf F a∧Zfs F l:=List.forall_mem_cons
theorem Zrt {F : Fm} : Zws F []:=fun _ h => by cases h
theorem ZuY {F : Fm} : Zfs F []:=fun _ h => by cases h
set_option maxHeartbeats 4000000 in
theorem Zmq (J : Al G T g) (hP : HasK g T) (F : Fm) {l : List (Nat × Nat)} {z : Bool} {p : AV} {B : Blk} (hl : l.length≤41) (h64 : W64 l) : ∀ (m i : Nat) (fl : Bool) (bs : List Blk),i + m = l.length →
  ∃ bs' fl',(Zws F (l.drop i)∧(fl' = true↔fl = true∧Zfs F (l.drop i))∧evL G T ZbI [(0,.int .u8 F.u),(5,p),(9,.bool fl),(27,ZL z l),(28,.int .i64 (l.length : Int)),(29,.int .i64 (i : Int))] ⟨B :: bs,[]⟩ =
    some (.exit 0,[(0,.int .u8 F.u),(5,p),(9,.bool fl'),(27,ZL z l),(28,.int .i64 (l.length : Int)),(29,.int .i64 (l.length : Int)),(30,.bool false)],⟨B :: bs',[]⟩)) ∨
   (¬ Zws F (l.drop i)∧evL G T ZbI [(0,.int .u8 F.u),(5,p),(9,.bool fl),(27,ZL z l),(28,.int .i64 (l.length : Int)),(29,.int .i64 (i : Int))] ⟨B :: bs,[]⟩ = some (.ret,[(6,.int .i64 6)],⟨B :: bs',[]⟩))
 | 0,i,fl,bs,hi => by
  have he : i = l.length:=by omega
  subst he
  have hd : l.drop l.length = []:=List.drop_length
  have hn : ¬ (l.length : Int) < (l.length : Int):=by omega
  refine ⟨bs,fl,Or.inl ⟨by rw [hd]; exact Zrt,by rw [hd]; simp [ZuY],?_⟩⟩
  rw [ZpD]
  repeat' (first|simp (maxSteps:=9^7) only [seval,exC,ZbF,hn]|simp (maxSteps:=9^7) (disch:=first|with_reducible assumption|omega) only [dxB]|(simp only [kdB];split)|(simp only [kvB];split))
 | m + 1,i,fl,bs,hi => by
  have hil : i < l.length:=by omega
  have hlt : (i : Int) < (l.length : Int):=by omega
  have hm:=Zms hil
  obtain ⟨u1,u2⟩:=h64 _ hm
  have hd:=ZjO hil
  have t1 : ((i : Int)).toNat = i:=Int.toNat_natCast i
  have w1 : IntKind.i64.wrap ((i : Int) + 1) = ((i + 1 : Nat) : Int):=by rw [Zac (by omega)]; rfl
  have ia:=Zgx (z:=z) (l:=l) (k:=.i64) (j:=(i : Int)) ⟨by omega,by omega⟩
  rw [t1] at ia
  have rd:=fun mm => rd_Z (G:=G) mm hil
  rw [hd]
  simp only [Zvf,Zwj]
  generalize zc l i = a at *
  obtain ⟨a,b⟩:=a
  simp only at u1 u2 rd
  by_cases hw : a < 2 * F.sg∧b < 2 * F.sg
  ·have c1:=ZdT J F hw.1 hw.2
   have hZ : Zw F (a,b):=hw
   have hfe : ∃ f1,(f1 = true↔fl = true∧Zf F (a,b))∧∀ h',evL G T ZbI [(0,.int .u8 F.u),(5,p),(9,.bool fl),(27,ZL z l),(28,.int .i64 (l.length : Int)),(29,.int .i64 (i : Int))] ⟨B :: bs,[]⟩ = evL G T ZbI [(0,.int .u8 F.u),(5,p),(9,.bool f1),(27,ZL z l),(28,.int .i64 (l.length : Int)),(29,.int .i64 ((i + 1 : Nat) : Int))] ⟨B :: (bs ++ [⟨[.int .u64 (a : Int),.int .u64 (b : Int)],false⟩]),[]⟩∨h':=by
    rw [ZEs]
    simp only
    generalize zcl (F.cls a) (F.cls b) = c at *
    simp only [zA] at *
    cases fl
    ·refine ⟨false,by simp,fun h' => Or.inl ?_⟩
     rw [ZpD]
     repeat' (first|simp (maxSteps:=9^7) only [seval,exC,ZbF,hlt,ia,rd,gaB,ZB,c1,w1]|simp (maxSteps:=9^7) (disch:=first|with_reducible assumption|omega) only [dxB]|(simp only [kdB];split)|(simp only [kvB];split))
    ·by_cases c2 : c≤2
     ·refine ⟨true,by simp [c2],fun h' => Or.inl ?_⟩
      rw [ZpD]
      repeat' (first|simp (maxSteps:=9^7) only [seval,exC,ZbF,hlt,ia,rd,gaB,ZB,c1,c2,w1]|simp (maxSteps:=9^7) (disch:=first|with_reducible assumption|omega) only [dxB]|(simp only [kdB];split)|(simp only [kvB];split))
     ·refine ⟨false,by simp [c2],fun h' => Or.inl ?_⟩
      rw [ZpD]
      repeat' (first|simp (maxSteps:=9^7) only [seval,exC,ZbF,hlt,ia,rd,gaB,ZB,c1,c2,w1]|simp (maxSteps:=9^7) (disch:=first|with_reducible assumption|omega) only [dxB]|(simp only [kdB];split)|(simp only [kvB];split))
   obtain ⟨f1,hf1,hev⟩:=hfe
   have hev:=(hev False).resolve_right id
   obtain ⟨bs',fl',h⟩:=Zmq J hP F (z:=z) (p:=p) (B:=B) hl h64 m (i + 1) f1 (bs ++ [⟨[.int .u64 (a : Int),.int .u64 (b : Int)],false⟩]) (by omega)
   rw [← hev] at h
   refine ⟨bs',fl',h.imp (fun q => ⟨⟨hZ,q.1⟩,by rw [q.2.1,hf1,and_assoc],q.2.2⟩) (fun q => ⟨fun r => q.1 r.2,q.2⟩)⟩
  ·have c1:=Zmk J F u1 u2 hw
   refine ⟨bs ++ [⟨[.int .u64 (a : Int),.int .u64 (b : Int)],false⟩],fl,Or.inr ⟨fun q => hw q.1,?_⟩⟩
   rw [ZpD]
   simp only [zA] at *
   repeat' (first|simp (maxSteps:=9^7) only [seval,exC,ZbF,hlt,ia,rd,gaB,ZB,c1,w1]|simp (maxSteps:=9^7) (disch:=first|with_reducible assumption|omega) only [dxB]|(simp only [kdB];split)|(simp only [kvB];split))
end Go.Cv
namespace Go.Cv
variable {G : Nat→Option (List AV)} {T : Tbl} {g : Nat}
open Classical in
noncomputable def opC (F : Fm) (l : List (Nat × Nat)) (p : Nat × Nat) : Int:=if 41 < l.length then 3 else if Zws F l∧Zw F p then (if Zfs F l∧Zf F p then 0 else 7) else 6
open Classical in
theorem Zrw {F : Fm} {l : List (Nat × Nat)} {p : Nat × Nat} (h : 41 < l.length) : opC F l p = 3:=if_pos h
open Classical in
theorem ZmW {F : Fm} {l : List (Nat × Nat)} {p : Nat × Nat} (h : ¬ 41 < l.length) (hw : ¬ (Zws F l∧Zw F p)) : opC F l p = 6:=by unfold opC; rw [if_neg h,if_neg hw]
open Classical in
theorem Zpe {F : Fm} {l : List (Nat × Nat)} {p : Nat × Nat} (h : ¬ 41 < l.length) (hw : Zws F l∧Zw F p) (hf : ¬ (Zfs F l∧Zf F p)) : opC F l p = 7:=by unfold opC; rw [if_neg h,if_pos hw,if_neg hf]
open Classical in
theorem Zow {F : Fm} {l : List (Nat × Nat)} {p : Nat × Nat} (h : ¬ 41 < l.length) (hw : Zws F l∧Zw F p) (hf : Zfs F l∧Zf F p) : opC F l p = 0:=by unfold opC; rw [if_neg h,if_pos hw,if_pos hf]
set_option maxHeartbeats 4000000 in
theorem Zjs (J : Al G T g) (hP : HasK g T) (F : Fm) {l : List (Nat × Nat)} {z : Bool} {a b : Nat} (h64 : W64 l) (ha : a < 18446744073709551616) (hb : b < 18446744073709551616) :
  run G T 375 [.int .u8 F.u,ZL z l,zA a b] = some (.int .i64 (opC F l (a,b))):=by
 rw [Zab G T hP.Zjs]
 have n1:=Zgg J F
 by_cases hl : 41 < l.length
 ·rw [Zrw hl]
  have hl' : 41 < (l.length : Int):=by omega
  simp only [zA]
  generalize F.nan = x at *
  repeat' (first|simp (maxSteps:=9^7) only [seval,exC,ZbG,ZB,n1,hl']|simp (maxSteps:=9^7) (disch:=first|with_reducible assumption|omega) only [dxB]|(simp only [kdB];split)|(simp only [kvB];split))
 ·have hl' : ¬ 41 < (l.length : Int):=by omega
  obtain ⟨bs',fl',h⟩:=Zmq J hP F (z:=z) (p:=.ptr 0 0) (B:=⟨[.int .u64 (a : Int),.int .u64 (b : Int)],false⟩) (l:=l) (by omega) h64 l.length 0 true [] (by omega)
  rw [List.drop_zero] at h
  generalize F.nan = x at *
  rcases h with ⟨h1,h2,h3⟩ | ⟨h1,h3⟩
  ·by_cases hp : a < 2 * F.sg∧b < 2 * F.sg
   ·have c1:=ZdT J F hp.1 hp.2
    have zl:=ZEs (F:=F) (a:=(a,b))
    simp only at zl
    by_cases hf : Zfs F l∧Zf F (a,b)
    ·rw [Zow (p:=(a,b)) hl ⟨h1,hp⟩ hf]
     have f1 : fl' = true:=h2.2 ⟨rfl,hf.1⟩
     subst f1
     have c2:=zl.1 hf.2
     generalize zcl (F.cls a) (F.cls b) = c at *
     simp only [zA,cast0] at *
     repeat' (first|simp (maxSteps:=9^7) only [seval,exC,ZbG,ZB,n1,hl',h3,c1,c2]|simp (maxSteps:=9^7) (disch:=first|with_reducible assumption|omega) only [dxB]|(simp only [kdB];split)|(simp only [kvB];split))
    ·rw [Zpe (p:=(a,b)) hl ⟨h1,hp⟩ hf]
     have fc : fl' = false∨(fl' = true∧¬ zcl (F.cls a) (F.cls b)≤2):=by
      cases fl' with
      | false => exact Or.inl rfl
      | true => exact Or.inr ⟨rfl,fun q => hf ⟨(h2.1 rfl).2,zl.2 q⟩⟩
     generalize zcl (F.cls a) (F.cls b) = c at *
     simp only [zA,cast0] at *
     rcases fc with rfl | ⟨rfl,c2⟩
     ·repeat' (first|simp (maxSteps:=9^7) only [seval,exC,ZbG,ZB,n1,hl',h3,c1]|simp (maxSteps:=9^7) (disch:=first|with_reducible assumption|omega) only [dxB]|(simp only [kdB];split)|(simp only [kvB];split))
     ·repeat' (first|simp (maxSteps:=9^7) only [seval,exC,ZbG,ZB,n1,hl',h3,c1,c2]|simp (maxSteps:=9^7) (disch:=first|with_reducible assumption|omega) only [dxB]|(simp only [kdB];split)|(simp only [kvB];split))
   ·rw [ZmW (p:=(a,b)) hl (fun q => hp q.2)]
    have c1:=Zmk J F ha hb hp
    simp only [zA,cast0] at *
    repeat' (first|simp (maxSteps:=9^7) only [seval,exC,ZbG,ZB,n1,hl',h3,c1]|simp (maxSteps:=9^7) (disch:=first|with_reducible assumption|omega) only [dxB]|(simp only [kdB];split)|(simp only [kvB];split))
  ·rw [ZmW (p:=(a,b)) hl (fun q => h1 q.1)]
   simp only [zA,cast0] at *
   repeat' (first|simp (maxSteps:=9^7) only [seval,exC,ZbG,ZB,n1,hl',h3]|simp (maxSteps:=9^7) (disch:=first|with_reducible assumption|omega) only [dxB]|(simp only [kdB];split)|(simp only [kvB];split))
theorem Zxn (J : Al G T g) (F : Fm) {l : List (Nat × Nat)} {z : Bool} {h : Heap} (hl : l.length≤4611686018427387904) (h64 : W64 l) : ∀ (m i : Nat),i + m = l.length →
  (Zws F (l.drop i)∧∃ e,evL G T ZcH [(0,.int .u8 F.u),(1,ZL z l),(5,.int .i64 (i : Int))] h = some (.exit 0,e,h))∨(¬ Zws F (l.drop i)∧evL G T ZcH [(0,.int .u8 F.u),(1,ZL z l),(5,.int .i64 (i : Int))] h = some (.ret,[(4,.int .i64 6)],h))
 | 0,i,hi => by
  have he : i = l.length:=by omega
  subst he
  refine Or.inl ⟨by rw [List.drop_length]; exact Zrt,?_⟩
  have hn : ¬ (l.length : Int) < (l.length : Int):=by omega
  rw [Zqn]
  repeat' (first|simp (maxSteps:=9^7) only [seval,exC,Zaz,ZB,hn]|simp (maxSteps:=9^7) (disch:=first|with_reducible assumption|omega) only [dxB]|(simp only [kdB];split)|(simp only [kvB];split))
  exact ⟨_,rfl⟩
 | m + 1,i,hi => by
  have hil : i < l.length:=by omega
  have hlt : (i : Int) < (l.length : Int):=by omega
  obtain ⟨u1,u2⟩:=h64 _ (Zms hil)
  have t1 : ((i : Int)).toNat = i:=Int.toNat_natCast i
  have w1 : IntKind.i64.wrap ((i : Int) + 1) = ((i + 1 : Nat) : Int):=by rw [Zac (by omega)]; rfl
  have ia:=Zgx (z:=z) (l:=l) (k:=.i64) (j:=(i : Int)) ⟨by omega,by omega⟩
  rw [t1] at ia
  have rd0:=fun mm => ZFR (G:=G) mm hil
  have rd1:=fun mm => ZGm (G:=G) mm hil
  rw [ZjO hil,Zvf]
  have g1:=Zhn J F u1
  have g2:=Zhn J F u2
  have ih:=Zxn J F (z:=z) (h:=h) hl h64 m (i + 1) (by omega)
  rw [Zqn]
  unfold Zw
  generalize zc l i = a at *
  by_cases k1 : a.1 < 2 * F.sg
  ·rw [if_pos k1] at g1
   by_cases k2 : a.2 < 2 * F.sg
   ·rw [if_pos k2] at g2
    rcases ih with ⟨q1,e,q2⟩ | ⟨q1,q2⟩
    ·refine Or.inl ⟨⟨⟨k1,k2⟩,q1⟩,e,?_⟩
     repeat' (first|simp (maxSteps:=9^7) only [seval,exC,Zaz,ZB,hlt,ia,fa_i,rd0,rd1,g1,g2,w1,q2]|simp (maxSteps:=9^7) (disch:=first|with_reducible assumption|omega) only [dxB]|(simp only [kdB];split)|(simp only [kvB];split))
    ·refine Or.inr ⟨fun q => q1 q.2,?_⟩
     repeat' (first|simp (maxSteps:=9^7) only [seval,exC,Zaz,ZB,hlt,ia,fa_i,rd0,rd1,g1,g2,w1,q2]|simp (maxSteps:=9^7) (disch:=first|with_reducible assumption|omega) only [dxB]|(simp only [kdB];split)|(simp only [kvB];split))
   ·rw [if_neg k2] at g2
    refine Or.inr ⟨fun q => k2 q.1.2,?_⟩
    repeat' (first|simp (maxSteps:=9^7) only [seval,exC,Zaz,ZB,hlt,ia,fa_i,rd0,rd1,g1,g2]|simp (maxSteps:=9^7) (disch:=first|with_reducible assumption|omega) only [dxB]|(simp only [kdB];split)|(simp only [kvB];split))
  ·rw [if_neg k1] at g1
   refine Or.inr ⟨fun q => k1 q.1.1,?_⟩
   repeat' (first|simp (maxSteps:=9^7) only [seval,exC,Zaz,ZB,hlt,ia,fa_i,rd0,rd1,g1]|simp (maxSteps:=9^7) (disch:=first|with_reducible assumption|omega) only [dxB]|(simp only [kdB];split)|(simp only [kvB];split))
open Classical in
theorem ZuP (J : Al G T g) (F : Fm) {l : List (Nat × Nat)} {z : Bool} (hl : l.length≤4611686018427387904) (h64 : W64 l) : run G T 185 [.int .u8 F.u,ZL z l] = some (.int .i64 (if Zws F l then 0 else 6)):=by
 rw [Zab G T J.U.ref10_Good]
 have h1:=Znv J F
 have h:=Zxn J F (z:=z) (h:=⟨[],[]⟩) hl h64 l.length 0 (by omega)
 rw [List.drop_zero,cast0] at h
 rcases h with ⟨q1,e,q2⟩ | ⟨q1,q2⟩
 ·rw [if_pos q1]
  repeat' (first|simp (maxSteps:=9^7) only [seval,exC,ZbY,h1,q2]|simp (maxSteps:=9^7) (disch:=first|with_reducible assumption|omega) only [dxB]|(simp only [kdB];split)|(simp only [kvB];split))
 ·rw [if_neg q1]
  repeat' (first|simp (maxSteps:=9^7) only [seval,exC,ZbY,h1,q2]|simp (maxSteps:=9^7) (disch:=first|with_reducible assumption|omega) only [dxB]|(simp only [kdB];split)|(simp only [kvB];split))
theorem ZAP (e : Env) (h : Heap) : evL G T Zcl e h = kS G T (evL G T Zbv (keepE [0,1,5,8] e) h) Zcl:=Zae G T rfl e h
theorem ZkK (J : Al G T g) (F : Fm) {l : List (Nat × Nat)} {z : Bool} {p : AV} {h : Heap} (hl : l.length≤41) (hw : Zws F l) : ∀ (m i : Nat),i + m = l.length →
  (Zfs F (l.drop i)∧evL G T Zcl [(0,.int .u8 F.u),(1,ZL z l),(5,p),(8,.int .i64 (i : Int))] h = some (.exit 0,[(0,.int .u8 F.u),(1,ZL z l),(5,p),(8,.int .i64 (l.length : Int)),(30,.bool false)],h))∨(¬ Zfs F (l.drop i)∧evL G T Zcl [(0,.int .u8 F.u),(1,ZL z l),(5,p),(8,.int .i64 (i : Int))] h = some (.ret,[(6,.int .i64 7)],h))
 | 0,i,hi => by
  have he : i = l.length:=by omega
  subst he
  refine Or.inl ⟨by rw [List.drop_length]; exact ZuY,?_⟩
  have hn : ¬ (l.length : Int) < (l.length : Int):=by omega
  rw [ZAP]
  repeat' (first|simp (maxSteps:=9^7) only [seval,exC,Zbv,ZB,hn]|simp (maxSteps:=9^7) (disch:=first|with_reducible assumption|omega) only [dxB]|(simp only [kdB];split)|(simp only [kvB];split))
 | m + 1,i,hi => by
  have hil : i < l.length:=by omega
  have hlt : (i : Int) < (l.length : Int):=by omega
  obtain ⟨u1,u2⟩:=hw _ (Zms hil)
  have t1 : ((i : Int)).toNat = i:=Int.toNat_natCast i
  have w1 : IntKind.i64.wrap ((i : Int) + 1) = ((i + 1 : Nat) : Int):=by rw [Zac (by omega)]; rfl
  have ia:=Zgx (z:=z) (l:=l) (k:=.i64) (j:=(i : Int)) ⟨by omega,by omega⟩
  rw [t1] at ia
  have rd:=fun mm => rd_Z (G:=G) mm hil
  rw [ZjO hil,Zwj]
  have f1:=ZbZ J F u1 u2
  have ih:=ZkK J F (z:=z) (p:=p) (h:=h) hl hw m (i + 1) (by omega)
  rw [ZAP]
  unfold Zf
  generalize zc l i = a at *
  simp only [zA] at *
  by_cases k1 : F.fin a.1∧F.fin a.2
  ·rw [decide_eq_true k1] at f1
   rcases ih with ⟨q1,q2⟩ | ⟨q1,q2⟩
   ·refine Or.inl ⟨⟨k1,q1⟩,?_⟩
    repeat' (first|simp (maxSteps:=9^7) only [seval,exC,Zbv,ZB,hlt,ia,rd,f1,w1,q2]|simp (maxSteps:=9^7) (disch:=first|with_reducible assumption|omega) only [dxB]|(simp only [kdB];split)|(simp only [kvB];split))
   ·refine Or.inr ⟨fun q => q1 q.2,?_⟩
    repeat' (first|simp (maxSteps:=9^7) only [seval,exC,Zbv,ZB,hlt,ia,rd,f1,w1,q2]|simp (maxSteps:=9^7) (disch:=first|with_reducible assumption|omega) only [dxB]|(simp only [kdB];split)|(simp only [kvB];split))
  ·rw [decide_eq_false k1] at f1
   refine Or.inr ⟨fun q => k1 q.1,?_⟩
   repeat' (first|simp (maxSteps:=9^7) only [seval,exC,Zbv,ZB,hlt,ia,rd,f1]|simp (maxSteps:=9^7) (disch:=first|with_reducible assumption|omega) only [dxB]|(simp only [kdB];split)|(simp only [kvB];split))
set_option maxHeartbeats 4000000 in
theorem ZjD (J : Al G T g) (hP : HasK g T) (F : Fm) {l : List (Nat × Nat)} {z : Bool} {a b : Nat} (h64 : W64 l) (ha : a < 18446744073709551616) (hb : b < 18446744073709551616) :
  run G T 344 [.int .u8 F.u,ZL z l,zA a b] = some (.int .i64 (opC F l (a,b))):=by
 rw [Zab G T hP.ZjD]
 have h1:=Znv J F
 by_cases hl : 41 < l.length
 ·rw [Zrw hl]
  have hl' : 41 < (l.length : Int):=by omega
  simp only [zA]
  repeat' (first|simp (maxSteps:=9^7) only [seval,exC,ZaU,ZB,h1,hl']|simp (maxSteps:=9^7) (disch:=first|with_reducible assumption|omega) only [dxB]|(simp only [kdB];split)|(simp only [kvB];split))
 ·have hl' : ¬ 41 < (l.length : Int):=by omega
  have g1:=ZuP J F (z:=z) (l:=l) (by omega) h64
  have g2:=Zum J F ha hb
  by_cases hw : Zws F l
  ·rw [if_pos hw] at g1
   by_cases hp : a < 2 * F.sg∧b < 2 * F.sg
   ·rw [if_pos hp] at g2
    have f2:=ZbZ J F hp.1 hp.2
    have ih:=ZkK J F (z:=z) (p:=.ptr 0 0) (h:=⟨[⟨[.int .u64 (a : Int),.int .u64 (b : Int)],false⟩,⟨[.int .u64 (a : Int),.int .u64 (b : Int)],false⟩],fz1 (.int .i64 0) [1]⟩) (l:=l) (by omega) hw l.length 0 (by omega)
    rw [List.drop_zero,cast0] at ih
    rcases ih with ⟨q1,q2⟩ | ⟨q1,q2⟩
    ·by_cases hf : F.fin a∧F.fin b
     ·rw [Zow (p:=(a,b)) hl ⟨hw,hp⟩ ⟨q1,hf⟩]
      rw [decide_eq_true hf] at f2
      simp only [zA] at *
      repeat' (first|simp (maxSteps:=9^7) only [seval,exC,ZaU,ZB,h1,hl',g1,g2,Zic,q2,f2]|simp (maxSteps:=9^7) (disch:=first|with_reducible assumption|omega) only [dxB]|(simp only [kdB];split)|(simp only [kvB];split))
     ·rw [Zpe (p:=(a,b)) hl ⟨hw,hp⟩ (fun q => hf q.2)]
      rw [decide_eq_false hf] at f2
      simp only [zA] at *
      repeat' (first|simp (maxSteps:=9^7) only [seval,exC,ZaU,ZB,h1,hl',g1,g2,Zic,q2,f2]|simp (maxSteps:=9^7) (disch:=first|with_reducible assumption|omega) only [dxB]|(simp only [kdB];split)|(simp only [kvB];split))
    ·rw [Zpe (p:=(a,b)) hl ⟨hw,hp⟩ (fun q => q1 q.1)]
     simp only [zA] at *
     repeat' (first|simp (maxSteps:=9^7) only [seval,exC,ZaU,ZB,h1,hl',g1,g2,Zic,q2]|simp (maxSteps:=9^7) (disch:=first|with_reducible assumption|omega) only [dxB]|(simp only [kdB];split)|(simp only [kvB];split))
   ·rw [if_neg hp] at g2
    rw [ZmW (p:=(a,b)) hl (fun q => hp q.2)]
    simp only [zA] at *
    repeat' (first|simp (maxSteps:=9^7) only [seval,exC,ZaU,ZB,h1,hl',g1,g2,Zic]|simp (maxSteps:=9^7) (disch:=first|with_reducible assumption|omega) only [dxB]|(simp only [kdB];split)|(simp only [kvB];split))
  ·rw [if_neg hw] at g1
   rw [ZmW (p:=(a,b)) hl (fun q => hw q.1)]
   simp only [zA] at *
   repeat' (first|simp (maxSteps:=9^7) only [seval,exC,ZaU,ZB,h1,hl',g1]|simp (maxSteps:=9^7) (disch:=first|with_reducible assumption|omega) only [dxB]|(simp only [kdB];split)|(simp only [kvB];split))
end Go.Cv
