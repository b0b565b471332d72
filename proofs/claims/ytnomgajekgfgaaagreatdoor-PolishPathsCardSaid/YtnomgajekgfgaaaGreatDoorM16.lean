/-
 A part of the proof of the statements of this seat (texts that the law's own text leans on): no condition.
-/
import Derived.Test.YtnomgajekgfgaaaGreatDoorM15
import Derived.Test.YtnomgajekgfgaaaGreatDoorM14
import Derived.Test.YtnomgajekgfgaaaGreatDoorM7
set_option linter.unusedVariables false
set_option linter.unusedSimpArgs false
set_option linter.defProp false
namespace Go.Cv
variable {G : Nat→Option (List AV)} {T : Tbl} {g : Nat}
def eqsA (neg : Bool) (ls : List Bool) : AV→AV→Option AV
 | .agg a,.agg b => if (kindsA ls a && kindsA ls b) = true then (eqCells a b).map fun r => .bool (if neg then !r else r) else none
 | _,_ => none
theorem ZDF (F : CallF) (d : Option Nat) (os : List IOper) (e : Env) (h : Heap) (neg : Bool) (ls : List Bool) (x y : IOpd) : evOps G F (⟨d,.eqs neg ls x y,none⟩ :: os) e h = kV G F (eqsA neg ls (opd e x) (opd e y)) d os e h:=by
 rw [Zcr G F d _ os e h rfl]
 simp only [evQ]
 cases opd e x <;> cases opd e y <;> try rfl
 simp only [eqsA]
 split
 ·cases eqCells _ _ <;> rfl
 ·rfl
theorem ZmW (J : Al G T g) {f md : Int} {a b c d k : Nat} {p q : Nat × Nat} (h : run G T 286 [.int .u8 f,.int .u8 md,im2 a b c d] = some (.int .i64 0))
  (h1 : run G T k [.int .u8 f,.int .u8 md,.int .u64 (a : Int),.int .u64 (c : Int)] = some (.tup [.int .u64 (p.1 : Int),.int .u8 (p.2 : Int),.int .i64 0]))
  (h2 : run G T k [.int .u8 f,.int .u8 md,.int .u64 (b : Int),.int .u64 (d : Int)] = some (.tup [.int .u64 (q.1 : Int),.int .u8 (q.2 : Int),.int .i64 0])) :
  run G T 285 [.int .u8 f,.int .u8 md,zA a b,zA c d,.fn k []] = some (.tup [zrA p q,.int .i64 0]):=by
 rw [Zab G T J.J.exact_parts]
 simp only [zA,zrA,im2] at *
 repeat' (first | simp only [seval,exC,Zhn,Zcu,ZbI,h,h1,h2] | simp (disch:=omega) only [dxB])
theorem Zqt (J : Al G T g) (F : Fm) {md : Int} (hm : 1≤md∧md≤5) {a b c d : Nat} (ha : a < 2 * F.sg) (hb : b < 2 * F.sg) (hc : c < 2 * F.sg) (hd : d < 2 * F.sg) :
  run G T 262 [.int .u8 F.u,.int .u8 md,zA a b,zA c d] = some (.tup [zrA (addW F md a c) (addW F md b d),.int .i64 0]):=by
 rw [Zab G T J.J.Zqt]
 have o1:=Zqx J F hm (ZaP ha) (ZaP hb) (ZaP hc) (ZaP hd)
 rw [if_pos ⟨⟨ha,hb⟩,hc,hd⟩] at o1
 have p1:=ZmW J o1 (Zox J F hm ha hc) (Zox J F hm hb hd)
 generalize addW F md a c = S1 at *
 generalize addW F md b d = S2 at *
 simp only [zA,zrA] at *
 repeat' (first | simp only [seval,exC,Zkr,p1] | simp (disch:=omega) only [dxB])
theorem Zqw (J : Al G T g) (F : Fm) {md : Int} (hm : 1≤md∧md≤5) {a b c d : Nat} (ha : a < 2 * F.sg) (hb : b < 2 * F.sg) (hc : c < 2 * F.sg) (hd : d < 2 * F.sg) :
  run G T 263 [.int .u8 F.u,.int .u8 md,zA a b,zA c d] = some (.tup [zrA (subW F md a c) (subW F md b d),.int .i64 0]):=by
 rw [Zab G T J.J.Zqw]
 have o1:=Zqx J F hm (ZaP ha) (ZaP hb) (ZaP hc) (ZaP hd)
 rw [if_pos ⟨⟨ha,hb⟩,hc,hd⟩] at o1
 have p1:=ZmW J o1 (ZpQ J F hm ha hc) (ZpQ J F hm hb hd)
 generalize subW F md a c = S1 at *
 generalize subW F md b d = S2 at *
 simp only [zA,zrA] at *
 repeat' (first | simp only [seval,exC,Zks,p1] | simp (disch:=omega) only [dxB])
theorem Zre (J : Al G T g) (F : Fm) {md : Int} (hm : 1≤md∧md≤5) {a b c d : Nat} (ha : a < 2 * F.sg) (hb : b < 2 * F.sg) (hc : c < 2 * F.sg) (hd : d < 2 * F.sg) :
  run G T 264 [.int .u8 F.u,.int .u8 md,zA a b,zA c d] = some (zrA (subW F md a c) (subW F md b d)):=by
 rw [Zab G T J.J.Zre]
 have r1:=ZlS J F hm ha hc
 have r2:=ZlS J F hm hb hd
 generalize subW F md a c = S1 at *
 generalize subW F md b d = S2 at *
 simp only [zA,zrA]
 repeat' (first | simp only [seval,exC,ZkP,r1,r2] | simp (disch:=omega) only [dxB])
set_option maxHeartbeats 16000000 in
theorem Zrc (J : Al G T g) (F : Fm) {md : Int} (hm : 1≤md∧md≤5) {a b c d : Nat} (ha : a < 2 * F.sg) (hb : b < 2 * F.sg) (hc : c < 2 * F.sg) (hd : d < 2 * F.sg) :
  run G T 258 [.int .u8 F.u,.int .u8 md,zA a b,zA c d] = some (zrA (divZ F md a b c d).1 (divZ F md a b c d).2):=by
 rw [Zab G T J.J.Zrc]
 have s1:=ZqZ J F hm ha hb hc hd
 unfold divZ
 by_cases hs : sdS F a b c d = true
 ·rw [if_pos hs]
  rw [hs] at s1
  generalize sdW F md a b c d = S at *
  simp only [zA,zrA] at *
  repeat' (first | simp only [seval,exC,Zil,s1] | simp (disch:=omega) only [dxB])
 ·rw [if_neg hs]
  have hz : (zcl (F.cls a) (F.cls b)≤2∧zcl (F.cls c) (F.cls d) = 2):=by
   unfold sdS at hs
   simpa using hs
  obtain ⟨fa,fb⟩:=(Zer F).2 hz.1
  obtain ⟨fc,fd⟩:=(Zer F (a:=c) (b:=d)).2 (by omega)
  have hq:=ZFW F hc hd hz.2
  rw [Bool.not_eq_true] at hs
  rw [hs] at s1
  obtain ⟨z,y,u,v,w,p1⟩:=ZjD J F ha hb hc hd fa fb fc fd
  have b1:=Zrv F a c false
  have b2:=Zrv F b d false
  have b3:=Zrv F b c false
  have b4:=Zrv F a d true
  have bq:=Ztv F c d
  obtain ⟨w1,q1⟩:=ZmI J (md:=md) (z:=z) (y:=y) (b1.1.mono (by decide)) (b2.1.mono (by decide))
  obtain ⟨w2,q2⟩:=ZmI J (md:=md) (z:=u) (y:=v) (b3.1.mono (by decide)) (b4.1.mono (by decide))
  have r1:=ZdR J F hm (z:=w1) (y:=w) (s:=zsg md (tm F a c false) (tm F b d false)) ((ZhT b1.1 b2.1).mono (by decide)) (bq.mono (by decide)) hq
  have r2:=ZdR J F hm (z:=w2) (y:=w) (s:=zsg md (tm F b c false) (tm F a d true)) ((ZhT b3.1 b4.1).mono (by decide)) (bq.mono (by decide)) hq
  rw [show ptQ F md (addD (tm F a c false).1 (tm F b d false).1) (zsg md (tm F a c false) (tm F b d false)) (sqD F c d) = (divR F md a b c d).1 from rfl] at r1
  rw [show ptQ F md (addD (tm F b c false).1 (tm F a d true).1) (zsg md (tm F b c false) (tm F a d true)) (sqD F c d) = (divR F md a b c d).2 from rfl] at r2
  clear b1 b2 b3 b4 hz bq hq
  generalize divR F md a b c d = R at *
  generalize sdW F md a b c d = S at *
  generalize zsg md (tm F a c false) (tm F b d false) = g1 at *
  generalize zsg md (tm F b c false) (tm F a d true) = g2 at *
  generalize addD (tm F a c false).1 (tm F b d false).1 = X at *
  generalize addD (tm F b c false).1 (tm F a d true).1 = Y at *
  generalize tm F a c false = t1 at *
  generalize tm F b d false = t2 at *
  generalize tm F b c false = t3 at *
  generalize tm F a d true = t4 at *
  generalize sqD F c d = one at *
  simp only [zA,zrA,gaussA,cellsN,List.cons_append,List.nil_append,DyA,A3] at *
  repeat' (first | simp only [seval,exC,Zil,ZDE,ZbI,ZDm,ZDn,s1,p1,q1,q2,r1,r2] | simp (disch:=omega) only [dxB])
end Go.Cv
namespace Go.Cv
variable {G : Nat→Option (List AV)} {T : Tbl} {g : Nat}
section
variable (a b c d e f : AV) (k : IntKind)
end
end Go.Cv
namespace Go.Cv
variable {G : Nat→Option (List AV)} {T : Tbl} {g : Nat}
theorem ZnW (F : Fm) : F.nan < 2 * F.sg:=by cases F <;> decide
theorem ZDt (F : Fm) {w : Nat} (h : w < 2 * F.sg) : F.min w < 2 * F.sg:=by
 unfold Fm.min; split
 ·exact ZnW F
 ·exact (ZoL h).1
theorem Zxc (F : Fm) {s : Nat} (hs : s < 2 * F.sg) (p : Int × Bool) : sideW F s p < 2 * F.sg:=by
 have z0 : (0 : Nat) < 2 * F.sg:=by cases F <;> decide
 unfold sideW
 split
 ·split
  ·exact ZDt F hs
  ·exact ZDt F z0
 ·split
  ·exact hs
  ·exact z0
theorem ZIy (F : Fm) (md : Int) (a b c d : Nat) : (smW F md a b c d).1.1 < 2 * F.sg∧(smW F md a b c d).2.1 < 2 * F.sg:=by
 have z0 : (0 : Nat) < 2 * F.sg:=by cases F <;> decide
 have zn : F.nan < 2 * F.sg:=by cases F <;> decide
 unfold smW
 repeat' split
 ·exact ⟨z0,z0⟩
 ·exact ⟨zn,zn⟩
 ·exact ⟨zn,zn⟩
 ·exact ⟨Zxc F (ZlE F false) _,Zxc F (ZlE F false) _⟩
def pl (F : Fm) (w : Nat) : Int:=if F.ng w then -((w % F.sg : Nat) : Int) else ((w % F.sg : Nat) : Int)
def Wd (F : Fm) (w : Nat) : Prop:=w < 2 * F.sg∧F.cls w≠5
theorem Znq (F : Fm) (neg : Bool) {s : Nat} (h : s≤F.i0) : pl F (s + F.sgn neg) = plz F neg s∧Wd F (s + F.sgn neg):=ZFq F neg h
theorem Zup (F : Fm) {md : Int} (hm : 1≤md∧md≤5) {X b : Dy} (hb : b.m≠0) (s5 s s4 : Bool) :
  (Wd F (ptQ F 5 X s5 b).1∧Wd F (ptQ F md X s b).1∧Wd F (ptQ F 4 X s4 b).1)∧(pl F (ptQ F 5 X s5 b).1≤pl F (ptQ F md X s b).1∧pl F (ptQ F md X s b).1≤pl F (ptQ F 4 X s4 b).1)∧pl F (ptQ F 4 X s4 b).1≤pl F (ptQ F 5 X s5 b).1 + 1:=by
 unfold ptQ
 by_cases h0 : X.m = 0
 ·simp only [if_pos h0]
  have z : ∀ n,pl F (F.sgn n) = 0∧Wd F (F.sgn n):=fun n => by
   have h:=Znq F n (s:=0) (Nat.zero_le _)
   rw [Nat.zero_add] at h
   refine ⟨h.1.trans ?_,h.2⟩
   unfold plz; cases n <;> rfl
  rw [(z s5).1,(z s).1,(z s4).1]
  exact ⟨⟨(z s5).2,(z s).2,(z s4).2⟩,⟨Int.le_refl _,Int.le_refl _⟩,by decide⟩
 ·simp only [if_neg h0]
  obtain ⟨s0,o,h,m,hs⟩:=ZCf F h0 hb
  have k5:=Zpi F (md:=5) (by decide) (X.n != b.n) o h m s0
  have k4:=Zpi F (md:=4) (by decide) (X.n != b.n) o h m s0
  have k:=Zpi F hm (X.n != b.n) o h m s0
  simp only at k5 k4 k
  rw [hs md hm,hs 5 (by decide),hs 4 (by decide),(Znq F _ k5.2.2.2).1,(Znq F _ k4.2.2.2).1,(Znq F _ k.2.2.2).1]
  exact ⟨⟨(Znq F _ k5.2.2.2).2,(Znq F _ k.2.2.2).2,(Znq F _ k4.2.2.2).2⟩,⟨k.1,k.2.1⟩,k.2.2.1⟩
theorem ZHU (F : Fm) {md : Int} (hm : 1≤md∧md≤5) (X : Dy) (s : Bool) {b : Dy} (hb : b.m≠0) : Wd F (ptQ F md X s b).1:=(Zup F hm (X:=X) hb s s s).1.2.1
def intD (n : Int) : Dy:=mkD (decide (n < 0)) n.natAbs 0
theorem ZCQ {n : Int} (h : -9223372036854775808≤n) (h0 : n < 0) : (0 - n % 18446744073709551616) % 18446744073709551616 = (n.natAbs : Int):=by omega
theorem ZCR {n : Int} (h : n≤9223372036854775807) (h0 : ¬ n < 0) : n % 18446744073709551616 = (n.natAbs : Int):=by omega
theorem Zoi (J : Al G T g) {n : Int} (h1 : -9223372036854775808≤n) (h2 : n≤9223372036854775807) : ∃ z,run G T 20 [.int .i64 n] = some (DyA z (intD n)):=by
 apply exP
 rw [Zab G T J.C.Zoi]
 obtain ⟨z1,r1⟩:=Zjh J (n:=n.natAbs) (by omega)
 have hl : (dl n.natAbs).length < 17179869184:=by
  have h1:=Zaa n.natAbs
  have h2 : blen n.natAbs≤64:=Zaf.2 (by rw [show (2 : Nat) ^ 64 = 18446744073709551616 from rfl]; omega)
  omega
 obtain ⟨z2,r2⟩:=ZaQ J (n:=decide (n < 0)) (z:=z1) (a:=n.natAbs) (e:=0) hl (by omega)
 unfold intD
 generalize mkD (decide (n < 0)) n.natAbs 0 = d at *
 by_cases h : n < 0
 ·have w1:=ZCQ h1 h
  rw [decide_eq_true h] at r2
  generalize dl n.natAbs = l at *
  generalize (n.natAbs : Int) = m at *
  simp only [DyA,A3] at *
  repeat' (first | simp only [seval,exC,ZfV,w1,h,r1,r2] | simp (disch:=omega) only [dxB])
  all_goals exact ⟨_,rfl,z2,rfl⟩
 ·have w1:=ZCR h2 h
  rw [decide_eq_false h] at r2
  generalize dl n.natAbs = l at *
  generalize (n.natAbs : Int) = m at *
  simp only [DyA,A3] at *
  repeat' (first | simp only [seval,exC,ZfV,w1,h,r1,r2] | simp (disch:=omega) only [dxB])
  all_goals exact ⟨_,rfl,z2,rfl⟩
end Go.Cv
namespace Go.Cv
variable {G : Nat→Option (List AV)} {T : Tbl} {g : Nat}
section
variable (b : Nat) (k : IntKind)
end
end Go.Cv
namespace Go.Cv
def scaW (F : Fm) (md : Int) (w : Nat) (n : Int) : Nat × Nat:=if F.cls w = 5 then (F.nan,0) else if F.cls w = 4∨F.cls w = 1 then (w,0) else rndW F md (shD (F.vl w) n)
def uA (F : Fm) (a b : Nat) : Nat:=(addW F 4 a b).1
def uM (F : Fm) (a b : Nat) : Nat:=(mulW2 F 4 a b).1
noncomputable def uN (F : Fm) (p : Nat × Nat) : Nat:=(absZ F 4 p.1 p.2).1
def uS (F : Fm) (w : Nat) : Nat:=(scaW F 4 w (-(F.fr + 1 : Nat))).1
def zM (F : Fm) (y z : Nat × Nat) : Nat × Nat:=((mulZ F 1 y.1 y.2 z.1 z.2).1.1,(mulZ F 1 y.1 y.2 z.1 z.2).2.1)
def zP (F : Fm) (p a : Nat × Nat) : Nat × Nat:=((addW F 1 p.1 a.1).1,(addW F 1 p.2 a.2).1)
noncomputable def stE (F : Fm) (z : Nat × Nat) (s : (Nat × Nat) × Nat) (a : Nat × Nat) : (Nat × Nat) × Nat :=
 (zP F (zM F s.1 z) a,uA F (uM F s.2 (uN F z)) (uA F (uS F (uA F (uN F (zM F s.1 z)) (uN F (zP F (zM F s.1 z) a)))) 2))
noncomputable def pE (F : Fm) (z : Nat × Nat) : List (Nat × Nat)→(Nat × Nat) × Nat
 | [] => ((0,0),0)
 | [a] => (a,0)
 | a :: b :: l => stE F z (pE F z (b :: l)) a
noncomputable def bdE (F : Fm) (s : (Nat × Nat) × Nat) : Nat:=if F.fin s.1.1∧F.fin s.1.2∧F.fin s.2 then s.2 else F.inf false
def Zw (F : Fm) (p : Nat × Nat) : Prop:=p.1 < 2 * F.sg∧p.2 < 2 * F.sg
def Zf (F : Fm) (p : Nat × Nat) : Prop:=F.fin p.1∧F.fin p.2
theorem Znd (F : Fm) {md : Int} (hm : 1≤md∧md≤5) {a b : Nat} : (addW F md a b).1 < 2 * F.sg:=by
 unfold addW addP
 repeat' split
 ·exact ZnW F
 ·exact ZnW F
 ·exact ZlE F _
 ·exact ZlE F _
 ·exact (Zix F _).1
 ·exact ZvM F hm _
theorem ZsK (F : Fm) {md : Int} (hm : 1≤md∧md≤5) {a b : Nat} : (mulW2 F md a b).1 < 2 * F.sg:=by
 unfold mulW2 mulP
 repeat' split
 ·exact ZnW F
 ·exact ZnW F
 ·exact ZlE F _
 ·exact (Zix F _).1
 ·exact ZvM F hm _
theorem Zvz (F : Fm) {md : Int} (hm : 1≤md∧md≤5) (d : Dy) : (rndW F md d).1 < 2 * F.sg:=by
 have z0 : (0 : Nat) < 2 * F.sg:=by cases F <;> decide
 by_cases h : d.m = 0
 ·unfold rndW; rw [if_pos h]; exact z0
 ·have:=ZvM F hm d
  unfold sumW at this; rw [if_neg h] at this; exact this
theorem Ztg (F : Fm) {md : Int} (hm : 1≤md∧md≤5) {w : Nat} (hw : w < 2 * F.sg) (n : Int) : (scaW F md w n).1 < 2 * F.sg:=by
 unfold scaW
 repeat' split
 ·exact ZnW F
 ·exact hw
 ·exact Zvz F hm _
theorem ZxX (F : Fm) (p : Nat × Nat) : uN F p < 2 * F.sg:=by
 unfold uN absZ toldW
 repeat' split
 ·exact ZlE F _
 ·exact ZnW F
 ·exact (ZKn F (Zxg F _ _)).1
theorem zM_w (F : Fm) (y z : Nat × Nat) : Zw F (zM F y z):=by
 unfold zM mulZ
 split
 ·exact ZIy F 1 _ _ _ _
 ·exact ⟨(ZHU F (by decide) _ _ (show oneD.m≠0 by decide)).1,(ZHU F (by decide) _ _ (show oneD.m≠0 by decide)).1⟩
theorem zP_w (F : Fm) (p a : Nat × Nat) : Zw F (zP F p a):=⟨Znd F (by decide),Znd F (by decide)⟩
theorem pE_w (F : Fm) (z : Nat × Nat) : ∀ (l : List (Nat × Nat)),(∀ a ∈ l,Zw F a)→Zw F (pE F z l).1∧(pE F z l).2 < 2 * F.sg
 | [],_ => by
  have z0 : (0 : Nat) < 2 * F.sg:=by cases F <;> decide
  exact ⟨⟨z0,z0⟩,z0⟩
 | [a],h => by
  have z0 : (0 : Nat) < 2 * F.sg:=by cases F <;> decide
  exact ⟨h a (List.mem_cons_self ..),z0⟩
 | a :: b :: l,h => ⟨zP_w F _ _,Znd F (by decide)⟩
theorem ZIO (F : Fm) : (2 : Nat) < 2 * F.sg∧F.fin 2∧F.vl 2 = ⟨false,1,F.low + 1⟩:=by
 have m:=ZpI (n:=false) (m:=1) (e:=F.low + 1) (by decide) 1
 rw [show (1 * 2 ^ 1 : Nat) = 2 from rfl,show F.low + 1 - ((1 : Nat) : Int) = F.low by omega] at m
 have f : F.fin 2:=by cases F <;> decide
 refine ⟨by cases F <;> decide,f,?_⟩
 rw [Zdx f,← m]
 cases F <;> rfl
theorem ZGs {d : Dy} (h : Nz d) (n : Int) : Nz (shD d n):=by
 unfold shD
 by_cases h0 : d.m = 0
 ·rw [if_pos h0]; exact h
 ·rw [if_neg h0]; exact ⟨fun q => absurd q h0,fun _ => h.2 h0⟩
def zcells : List (Nat × Nat)→List AV
 | [] => []
 | p :: l => .int .u64 (p.1 : Int) :: .int .u64 (p.2 : Int) :: zcells l
def ZL (z : Bool) (l : List (Nat × Nat)) : AV:=if z = true∧l = [] then .nil else .imm l.length (zcells l)
theorem Zsf : ∀ (l : List (Nat × Nat)) (j : Nat),(zcells l)[j]? = (l[j / 2]?).map fun p => AV.int .u64 ((if j % 2 = 0 then p.1 else p.2 : Nat) : Int)
 | [],j => by simp [zcells]
 | p :: l,0 => by simp [zcells]
 | p :: l,1 => by simp [zcells]
 | p :: l,j + 2 => by
  rw [zcells,List.getElem?_cons_succ,List.getElem?_cons_succ,Zsf l j,show (j + 2) / 2 = j / 2 + 1 by omega,List.getElem?_cons_succ,show (j + 2) % 2 = j % 2 by omega]
end Go.Cv
namespace Go.Cv
end Go.Cv
namespace Go.Cv
end Go.Cv
namespace Go.Cv
variable {G : Nat→Option (List AV)} {T : Tbl} {g : Nat}
theorem Zqi (J : Al G T g) (hP : HasK g T) (F : Fm) {md : Int} (hm : 1≤md∧md≤5) : run G T 404 [.int .u8 F.u,.int .u8 md] = some (.int .i64 0):=by
 rw [Zab G T hP.Zqi]
 have o1:=ZeO J F hm (neg:=false)
 repeat' (first | simp only [seval,exC,Zkl,o1] | simp (disch:=omega) only [dxB])
theorem Zqj (J : Al G T g) (hP : HasK g T) (F : Fm) {md : Int} (hm : 1≤md∧md≤5) {w : Nat} (hw : w < 2 * F.sg) : run G T 399 [.int .u8 F.u,.int .u8 md,.int .u64 (w : Int)] = some (.tup [.int .u8 (F.cls w),.bool (F.ng w),.int .i64 0]):=by
 rw [Zab G T hP.Zqj]
 have o1:=Zqi J hP F hm
 have c1:=Zby J F hw
 have s1:=Zgc J F hw
 generalize F.cls w = c at *
 generalize F.ng w = n at *
 generalize F.ex w = x at *
 generalize F.fc w = y at *
 simp only [fldA] at *
 repeat' (first | simp only [seval,exC,Zkm,o1,c1,s1] | simp (disch:=omega) only [dxB])
theorem ZoI (J : Al G T g) (hP : HasK g T) {z : Bool} {d : Dy} (nz : Nz d) (hd : Bd d 8192) {n : Int} (hn : -8192≤n∧n≤8192) : ∃ z',run G T 400 [DyA z d,.int .i64 n] = some (.tup [DyA z' (shD d n),.int .i64 0]):=by
 rw [Zab G T hP.ZoI]
 have m1:=Zda J d.n z (Zao d.m) d.e
 rw [Zaw nz (hd.mono (by decide))] at m1
 have hl:=Zaa d.m
 obtain ⟨b1,b2,b3⟩:=hd
 unfold shD
 by_cases h0 : d.m = 0
 ·rw [if_pos h0]
  have hd0:=nz.1 h0
  refine ⟨true,?_⟩
  have l0 : ((dl d.m).length : Int) = 0:=by rw [h0,Zai]; rfl
  rw [hd0] at m1 l0 ⊢
  simp only [DyA,A3,Zai] at *
  repeat' (first | simp only [seval,exC,ZgD,m1,l0,Ztx] | simp (disch:=omega) only [dxB])
 ·rw [if_neg h0]
  have l0 : ¬ ((dl d.m).length : Int) = 0:=by
   have : (dl d.m).length≠0:=fun q => h0 (by have:=Zan (a:=d.m); first | exact this.1 q | (rw [List.length_eq_zero_iff] at q; have:=ZaE d.m; rw [q] at this; exact this.symm))
   omega
  obtain ⟨z',o1⟩:=Zmx J (n:=d.n) (z:=z) (l:=dl d.m) (e:=d.e) (by omega)
  refine ⟨z',?_⟩
  have w1 : IntKind.i64.wrap (16777216 - d.e) = 16777216 - d.e:=Zac (by omega)
  have w2 : IntKind.i64.wrap (-16777216 - d.e) = -16777216 - d.e:=Zac (by omega)
  have w3 : IntKind.i64.wrap (d.e + n) = d.e + n:=Zac (by omega)
  have t1 : ¬ 16777216 - d.e < n:=by omega
  have t2 : ¬ n < -16777216 - d.e:=by omega
  simp only [DyA,A3] at *
  repeat' (first | simp only [seval,exC,ZgD,m1,l0,w1,w2,w3,t1,t2,o1] | simp (disch:=omega) only [dxB])
theorem ZvT (F : Fm) (w : Nat) : Bd (F.vl w) 2048:=by
 by_cases h1 : (F.vl w).m = 0
 ·rw [(Zes F w).1 h1]; exact ⟨by simp only [Zag]; omega,by simp,by simp⟩
 ·have hF:=ZbH F
  have fa : F.fin w:=by
   by_cases h : F.fin w
   ·exact h
   ·exfalso; apply h1; unfold Fm.vl; rw [if_neg h]
  have e1:=ZpF F fa (by rw [← Zdx fa]; exact h1)
  rw [← Zdx fa] at e1
  obtain ⟨_,a1,a2,a3⟩:=e1
  exact ⟨by omega,by omega,by omega⟩
theorem ZCU {d : Dy} {K : Nat} (h : Bd d K) {n : Int} (hn : -(K : Int)≤n∧n≤K) : Bd (shD d n) (2 * K):=by
 obtain ⟨h1,h2,h3⟩:=h
 unfold shD
 split
 ·exact ⟨by omega,by omega,by omega⟩
 ·exact ⟨by simp only; omega,by simp only; omega,by simp only; omega⟩
theorem ZjT (J : Al G T g) (hP : HasK g T) (F : Fm) {md : Int} (hm : 1≤md∧md≤5) {w : Nat} (hw : w < 2 * F.sg) {n : Int} (hn : -2048≤n∧n≤2048) : run G T 393 [.int .u8 F.u,.int .u8 md,.int .u64 (w : Int),.int .i64 n] = some (.tup [.int .u64 ((scaW F md w n).1 : Int),.int .u8 ((scaW F md w n).2 : Int),.int .i64 0]):=by
 rw [Zab G T hP.ZjT]
 have o1:=Zqj J hP F hm hw
 unfold scaW
 by_cases h5 : F.cls w = 5
 ·rw [if_pos h5]
  rw [h5] at o1
  have n1:=Zhc J F
  generalize F.ng w = x at *
  generalize F.nan = y at *
  simp only [cast0]
  repeat' (first | simp only [seval,exC,Zde,o1,n1] | simp (disch:=omega) only [dxB])
 ·rw [if_neg h5]
  by_cases h4 : F.cls w = 4∨F.cls w = 1
  ·rw [if_pos h4]
   generalize F.ng w = x at *
   generalize F.cls w = c at *
   simp only [cast0]
   by_cases c4 : c = 4
   ·repeat' (first | simp only [seval,exC,Zde,o1,h5,c4] | simp (disch:=omega) only [dxB])
   ·have c1 : c = 1:=by omega
    repeat' (first | simp only [seval,exC,Zde,o1,h5,c4,c1] | simp (disch:=omega) only [dxB])
  ·rw [if_neg h4]
   obtain ⟨z,k,v1⟩:=ZcR J F hw
   obtain ⟨z2,s1⟩:=ZoI J hP (z:=z) (d:=F.vl w) (Zes F w) ((ZvT F w).mono (by decide)) (n:=n) (by omega)
   have r1:=Ziw J F hm (z:=z2) (Zaw (ZGs (Zes F w) n) ((ZCU (ZvT F w) (n:=n) (by omega)).mono (by decide)))
   have m1 : max (-16384) n = n:=by omega
   have m2 : min 16384 n = n:=by omega
   generalize rndW F md (shD (F.vl w) n) = R at *
   generalize shD (F.vl w) n = d at *
   generalize F.vl w = e at *
   generalize F.ng w = x at *
   generalize F.cls w = c at *
   have c4 : ¬ c = 4:=fun h => h4 (Or.inl h)
   have c1 : ¬ c = 1:=fun h => h4 (Or.inr h)
   simp only [DyA,A3] at *
   repeat' (first | simp only [seval,exC,Zde,o1,h5,c4,c1,v1,m1,m2,s1,r1] | simp (disch:=omega) only [dxB])
theorem Ziu (J : Al G T g) (hP : HasK g T) (F : Fm) {md : Int} (hm : 1≤md∧md≤5) {w : Nat} (hw : w < 2 * F.sg) {n : Int} (hn : -2048≤n∧n≤2048) : run G T 394 [.int .u8 F.u,.int .u8 md,.int .u64 (w : Int),.int .i64 n] = some (.tup [.int .u64 ((scaW F md w n).1 : Int),.int .u8 ((scaW F md w n).2 : Int)]):=by
 rw [Zab G T hP.Ziu]
 have o1:=ZaA J F (ZaP hw)
 unfold scaW
 by_cases h5 : F.cls w = 5
 ·rw [if_pos h5]
  rw [h5] at o1
  have n1:=ZdP J F
  generalize F.nan = y at *
  simp only [cast0]
  repeat' (first | simp only [seval,exC,ZcB,o1,n1] | simp (disch:=omega) only [dxB])
 ·rw [if_neg h5]
  by_cases h4 : F.cls w = 4∨F.cls w = 1
  ·rw [if_pos h4]
   generalize F.cls w = c at *
   simp only [cast0]
   by_cases c4 : c = 4
   ·repeat' (first | simp only [seval,exC,ZcB,o1,h5,c4] | simp (disch:=omega) only [dxB])
   ·have c1 : c = 1:=by omega
    repeat' (first | simp only [seval,exC,ZcB,o1,h5,c4,c1] | simp (disch:=omega) only [dxB])
  ·rw [if_neg h4]
   have cr:=ZbS F w
   have fw : F.fin w:=Zbu.2 (by omega)
   obtain ⟨z,v1⟩:=ZaX J F (ZaP hw) fw
   rw [← Zdx fw] at v1
   obtain ⟨b1,b2,b3⟩:=ZvT F w
   have s1:=Zez J (z:=z) (d:=F.vl w) (k:=n) (by omega) (by omega)
   have r1:=Zdw J F hm (z:=z) (ZGs (Zes F w) n) ((ZCU (ZvT F w) (n:=n) (by omega)).mono (by decide))
   have m1 : ¬ 10000 < n:=by omega
   have m2 : ¬ n < -10000:=by omega
   generalize rndW F md (shD (F.vl w) n) = R at *
   generalize shD (F.vl w) n = d at *
   generalize F.vl w = e at *
   generalize F.cls w = c at *
   have c4 : ¬ c = 4:=fun h => h4 (Or.inl h)
   have c1 : ¬ c = 1:=fun h => h4 (Or.inr h)
   simp only [DyA,A3] at *
   repeat' (first | simp only [seval,exC,ZcB,o1,h5,c4,c1,v1,m1,m2,s1,r1] | simp (disch:=omega) only [dxB])
end Go.Cv
namespace Go.Cv
variable {G : Nat→Option (List AV)} {T : Tbl} {g : Nat}
section
variable {α : Type} (bs L : List α) (v : α)
theorem ga0 : (bs ++ L)[bs.length]? = L[0]?:=by rw [List.getElem?_append_right (Nat.le_refl _),Nat.sub_self]
theorem ga1 : (bs ++ L)[bs.length + 1]? = L[1]?:=by rw [List.getElem?_append_right (Nat.le_add_right ..),Nat.add_sub_cancel_left]
theorem ga2 : (bs ++ L)[bs.length + 2]? = L[2]?:=by rw [List.getElem?_append_right (Nat.le_add_right ..),Nat.add_sub_cancel_left]
theorem ga3 : (bs ++ L)[bs.length + 3]? = L[3]?:=by rw [List.getElem?_append_right (Nat.le_add_right ..),Nat.add_sub_cancel_left]
theorem ga4 : (bs ++ L)[bs.length + 4]? = L[4]?:=by rw [List.getElem?_append_right (Nat.le_add_right ..),Nat.add_sub_cancel_left]
theorem gs0 : (bs ++ L).set bs.length v = bs ++ L.set 0 v:=by rw [List.set_append_right _ _ (Nat.le_refl _),Nat.sub_self]
theorem gs1 : (bs ++ L).set (bs.length + 1) v = bs ++ L.set 1 v:=by rw [List.set_append_right _ _ (Nat.le_add_right ..),Nat.add_sub_cancel_left]
theorem gs2 : (bs ++ L).set (bs.length + 2) v = bs ++ L.set 2 v:=by rw [List.set_append_right _ _ (Nat.le_add_right ..),Nat.add_sub_cancel_left]
theorem gs3 : (bs ++ L).set (bs.length + 3) v = bs ++ L.set 3 v:=by rw [List.set_append_right _ _ (Nat.le_add_right ..),Nat.add_sub_cancel_left]
theorem gs4 : (bs ++ L).set (bs.length + 4) v = bs ++ L.set 4 v:=by rw [List.set_append_right _ _ (Nat.le_add_right ..),Nat.add_sub_cancel_left]
theorem gap (K : List α) : bs ++ L ++ K = bs ++ (L ++ K):=List.append_assoc ..
theorem gal : (bs ++ L).length = bs.length + L.length:=List.length_append
end
def gaB {α : Type}:=ai (ai (ai (@ga0 α) (ai (@ga1 α) (@ga2 α))) (ai (@ga3 α) (@ga4 α))) (ai (ai (@gs0 α) (ai (@gs1 α) (@gs2 α))) (ai (ai (@gs3 α) (@gs4 α)) (ai (@gap α) (@gal α))))
theorem Zbz : ∀ l : List (Nat × Nat),(zcells l).length = l.length * 2
 | [] => rfl
 | p :: l => by rw [zcells,List.length_cons,List.length_cons,List.length_cons,Zbz l]; omega
def zc (l : List (Nat × Nat)) (i : Nat) : Nat × Nat:=l.getD i (0,0)
theorem ZGo {l : List (Nat × Nat)} {i : Nat} (h : i < l.length) : zc l i = l[i]:=by unfold zc; rw [List.getD_eq_getElem?_getD,List.getElem?_eq_getElem h]; rfl
theorem Zpu {l : List (Nat × Nat)} {i : Nat} (h : i < l.length) : zc l i ∈ l:=by rw [ZGo h]; exact List.getElem_mem h
theorem Zjz {l : List (Nat × Nat)} {i : Nat} (h : i < l.length) : l.drop i = zc l i :: l.drop (i + 1):=by rw [ZGo h]; exact List.drop_eq_getElem_cons h
theorem ZmR : ∀ a b : List (Nat × Nat),zcells (a ++ b) = zcells a ++ zcells b
 | [],b => rfl
 | p :: a,b => by rw [List.cons_append,zcells,zcells,ZmR a b]; rfl
theorem Zln : ∀ (l : List (Nat × Nat)) (i : Nat),(zcells l).drop (i * 2) = zcells (l.drop i)
 | l,0 => rfl
 | [],i + 1 => by simp [zcells]
 | p :: l,i + 1 => by
  rw [zcells,List.drop_succ_cons,← Zln l i,show (i + 1) * 2 = i * 2 + 1 + 1 by omega,List.drop_succ_cons,List.drop_succ_cons]
theorem Zsg {l : List (Nat × Nat)} {i : Nat} (h : i < l.length) : ((zcells l).drop (i * 2)).take 2 = [.int .u64 ((zc l i).1 : Int),.int .u64 ((zc l i).2 : Int)]:=by
 rw [Zln,Zjz h]; rfl
theorem ZDM {z : Bool} {l : List (Nat × Nat)} (h : l≠[]) : ZL z l = .imm l.length (zcells l):=by unfold ZL; rw [if_neg (fun q => h q.2)]
theorem ZDr (z : Bool) (l : List (Nat × Nat)) : lenA (ZL z l) = some l.length:=by
 unfold ZL
 split
 ·next h => rw [h.2]; rfl
 ·rfl
theorem sn_Z (g : Nat→Nat→Nat→Nat→Option AV) (z : Bool) (l : List (Nat × Nat)) : snapA g (ZL z l) = some (ZL z l):=by
 unfold ZL
 split
 ·exact Zxf g
 ·exact ZAg g _ _
theorem Zip {z : Bool} {l : List (Nat × Nat)} {k : IntKind} {j : Int} (h : 0≤j∧j.toNat < l.length) : iaddrV 2 (ZL z l) (.int k j) = some (.iptr (zcells l) (j.toNat * 2)):=by
 rw [ZDM (by rintro rfl; exact absurd h.2 (Nat.not_lt_zero _)),iaddrV,if_pos ⟨h.1,by omega,by decide,Zbz l⟩]
theorem rd_Z (m : Mem) {l : List (Nat × Nat)} {i : Nat} (h : i < l.length) : rdAt G m 2 (.iptr (zcells l) (i * 2)) = some [.int .u64 ((zc l i).1 : Int),.int .u64 ((zc l i).2 : Int)]:=by
 rw [rdAt,if_pos (by rw [Zbz]; omega),Zsg h]
theorem ZFv (m : Mem) {l : List (Nat × Nat)} {i : Nat} (h : i < l.length) : rdAt G m 1 (.iptr (zcells l) (i * 2 + 0)) = some [.int .u64 ((zc l i).1 : Int)]:=by
 rw [rdAt,if_pos (by rw [Zbz]; omega),Nat.add_zero,Zln,Zjz h]; rfl
theorem ZIa (m : Mem) {l : List (Nat × Nat)} {i : Nat} (h : i < l.length) : rdAt G m 1 (.iptr (zcells l) (i * 2)) = some [.int .u64 ((zc l i).1 : Int)]:=ZFv m h
theorem ZIb (m : Mem) {l : List (Nat × Nat)} {i : Nat} (h : i < l.length) : rdAt G m 1 (.iptr (zcells l) (i * 2 + 1)) = some [.int .u64 ((zc l i).2 : Int)]:=by
 rw [rdAt,if_pos (by rw [Zbz]; omega),← List.drop_drop,Zln,Zjz h]; rfl
theorem ZHO (z : Bool) (l : List (Nat × Nat)) : okCell (ZL z l) = true:=by unfold ZL; split <;> rfl
theorem ca_Z (z : Bool) (l : List (Nat × Nat)) : cellsA (ZL z l) = [ZL z l]:=by unfold ZL; split <;> rfl
theorem rl_Z (gg : Nat→List Nat) (z : Bool) (m : List (Nat × Nat)) (l : List AV) : reachL gg (ZL z m :: l) = reachL gg l:=by
 unfold ZL
 split
 ·exact ZzP gg l
 ·exact ZDw gg _ _ l
theorem ZJB (h : Mem) (r : AV) (z : Bool) (m : List (Nat × Nat)) (args : List AV) : frz h r (ZL z m :: args) = frz h r args:=by
 unfold ZL
 split
 ·exact Zwu h r args
 ·exact Zza h r _ _ args
def ZB:=ai (ai @ZDr @sn_Z) (ai (ai @ZHO @ca_Z) (ai @rl_Z @ZJB))
theorem ZqR (e : Env) (h : Heap) : evL G T ZbV e h = kS G T (evL G T ZbU (keepE [0,5,9,27,28,29] e) h) ZbV:=Zae G T rfl e h
theorem ZDH {F : Fm} {a : Nat × Nat} : Zf F a↔zcl (F.cls a.1) (F.cls a.2)≤2:=Zer F
def W64 (l : List (Nat × Nat)) : Prop:=∀ a ∈ l,a.1 < 18446744073709551616∧a.2 < 18446744073709551616
def Zws (F : Fm) (l : List (Nat × Nat)) : Prop:=∀ a ∈ l,Zw F a
def Zfs (F : Fm) (l : List (Nat × Nat)) : Prop:=∀ a ∈ l,Zf F a
theorem Zsj {F : Fm} {a : Nat × Nat} {l : List (Nat × Nat)} : Zws F (a :: l)↔Zw F a∧Zws F l:=List.forall_mem_cons
theorem Zsi {F : Fm} {a : Nat × Nat} {l : List (Nat × Nat)} : Zfs F (a :: l)↔Zf F a∧Zfs F l:=List.forall_mem_cons
theorem Zvd {F : Fm} : Zws F []:=fun _ h => by cases h
theorem Zvc {F : Fm} : Zfs F []:=fun _ h => by cases h
set_option maxHeartbeats 4000000 in
theorem Zna (J : Al G T g) (hP : HasK g T) (F : Fm) {l : List (Nat × Nat)} {z : Bool} {p : AV} {B : Blk} (hl : l.length≤41) (h64 : W64 l) : ∀ (m i : Nat) (fl : Bool) (bs : List Blk),i + m = l.length →
  ∃ bs' fl',(Zws F (l.drop i)∧(fl' = true↔fl = true∧Zfs F (l.drop i))∧evL G T ZbV [(0,.int .u8 F.u),(5,p),(9,.bool fl),(27,ZL z l),(28,.int .i64 (l.length : Int)),(29,.int .i64 (i : Int))] ⟨B :: bs,[]⟩ =
    some (.exit 0,[(0,.int .u8 F.u),(5,p),(9,.bool fl'),(27,ZL z l),(28,.int .i64 (l.length : Int)),(29,.int .i64 (l.length : Int)),(30,.bool false)],⟨B :: bs',[]⟩)) ∨
   (¬ Zws F (l.drop i)∧evL G T ZbV [(0,.int .u8 F.u),(5,p),(9,.bool fl),(27,ZL z l),(28,.int .i64 (l.length : Int)),(29,.int .i64 (i : Int))] ⟨B :: bs,[]⟩ = some (.ret,[(6,.int .i64 6)],⟨B :: bs',[]⟩))
 | 0,i,fl,bs,hi => by
  have he : i = l.length:=by omega
  subst he
  have hd : l.drop l.length = []:=List.drop_length
  have hn : ¬ (l.length : Int) < (l.length : Int):=by omega
  refine ⟨bs,fl,Or.inl ⟨by rw [hd]; exact Zvd,by rw [hd]; simp [Zvc],?_⟩⟩
  rw [ZqR]
  repeat' (first | simp only [seval,exC,ZbU,hn] | simp (disch:=omega) only [dxB])
 | m + 1,i,fl,bs,hi => by
  have hil : i < l.length:=by omega
  have hlt : (i : Int) < (l.length : Int):=by omega
  have hm:=Zpu hil
  obtain ⟨u1,u2⟩:=h64 _ hm
  have hd:=Zjz hil
  have t1 : ((i : Int)).toNat = i:=Int.toNat_natCast i
  have w1 : IntKind.i64.wrap ((i : Int) + 1) = ((i + 1 : Nat) : Int):=by rw [Zac (by omega)]; rfl
  have ia:=Zip (z:=z) (l:=l) (k:=.i64) (j:=(i : Int)) ⟨by omega,by omega⟩
  rw [t1] at ia
  have rd:=fun mm => rd_Z (G:=G) mm hil
  rw [hd]
  simp only [Zsj,Zsi]
  generalize zc l i = a at *
  obtain ⟨a,b⟩:=a
  simp only at u1 u2 rd
  by_cases hw : a < 2 * F.sg∧b < 2 * F.sg
  ·have c1:=ZbN J F hw.1 hw.2
   have hZ : Zw F (a,b):=hw
   have hfe : ∃ f1,(f1 = true↔fl = true∧Zf F (a,b))∧∀ h',evL G T ZbV [(0,.int .u8 F.u),(5,p),(9,.bool fl),(27,ZL z l),(28,.int .i64 (l.length : Int)),(29,.int .i64 (i : Int))] ⟨B :: bs,[]⟩ = evL G T ZbV [(0,.int .u8 F.u),(5,p),(9,.bool f1),(27,ZL z l),(28,.int .i64 (l.length : Int)),(29,.int .i64 ((i + 1 : Nat) : Int))] ⟨B :: (bs ++ [⟨[.int .u64 (a : Int),.int .u64 (b : Int)],false⟩]),[]⟩∨h':=by
    rw [ZDH]
    simp only
    generalize zcl (F.cls a) (F.cls b) = c at *
    simp only [zA] at *
    cases fl
    ·refine ⟨false,by simp,fun h' => Or.inl ?_⟩
     rw [ZqR]
     repeat' (first | simp only [seval,exC,ZbU,hlt,ia,rd,gaB,ZB,c1,w1] | simp (disch:=omega) only [dxB])
    ·by_cases c2 : c≤2
     ·refine ⟨true,by simp [c2],fun h' => Or.inl ?_⟩
      rw [ZqR]
      repeat' (first | simp only [seval,exC,ZbU,hlt,ia,rd,gaB,ZB,c1,c2,w1] | simp (disch:=omega) only [dxB])
     ·refine ⟨false,by simp [c2],fun h' => Or.inl ?_⟩
      rw [ZqR]
      repeat' (first | simp only [seval,exC,ZbU,hlt,ia,rd,gaB,ZB,c1,c2,w1] | simp (disch:=omega) only [dxB])
   obtain ⟨f1,hf1,hev⟩:=hfe
   have hev:=(hev False).resolve_right id
   obtain ⟨bs',fl',h⟩:=Zna J hP F (z:=z) (p:=p) (B:=B) hl h64 m (i + 1) f1 (bs ++ [⟨[.int .u64 (a : Int),.int .u64 (b : Int)],false⟩]) (by omega)
   rw [← hev] at h
   refine ⟨bs',fl',h.imp (fun q => ⟨⟨hZ,q.1⟩,by rw [q.2.1,hf1,and_assoc],q.2.2⟩) (fun q => ⟨fun r => q.1 r.2,q.2⟩)⟩
  ·have c1:=ZmY J F u1 u2 hw
   refine ⟨bs ++ [⟨[.int .u64 (a : Int),.int .u64 (b : Int)],false⟩],fl,Or.inr ⟨fun q => hw q.1,?_⟩⟩
   rw [ZqR]
   simp only [zA] at *
   repeat' (first | simp only [seval,exC,ZbU,hlt,ia,rd,gaB,ZB,c1,w1] | simp (disch:=omega) only [dxB])
end Go.Cv
namespace Go.Cv
variable {G : Nat→Option (List AV)} {T : Tbl} {g : Nat}
open Classical in
noncomputable def opC (F : Fm) (l : List (Nat × Nat)) (p : Nat × Nat) : Int:=if 41 < l.length then 3 else if Zws F l∧Zw F p then (if Zfs F l∧Zf F p then 0 else 7) else 6
open Classical in
theorem ZsT {F : Fm} {l : List (Nat × Nat)} {p : Nat × Nat} (h : 41 < l.length) : opC F l p = 3:=if_pos h
open Classical in
theorem Zoa {F : Fm} {l : List (Nat × Nat)} {p : Nat × Nat} (h : ¬ 41 < l.length) (hw : ¬ (Zws F l∧Zw F p)) : opC F l p = 6:=by unfold opC; rw [if_neg h,if_neg hw]
open Classical in
theorem ZnY {F : Fm} {l : List (Nat × Nat)} {p : Nat × Nat} (h : ¬ 41 < l.length) (hw : Zws F l∧Zw F p) (hf : ¬ (Zfs F l∧Zf F p)) : opC F l p = 7:=by unfold opC; rw [if_neg h,if_pos hw,if_neg hf]
open Classical in
theorem ZnZ {F : Fm} {l : List (Nat × Nat)} {p : Nat × Nat} (h : ¬ 41 < l.length) (hw : Zws F l∧Zw F p) (hf : Zfs F l∧Zf F p) : opC F l p = 0:=by unfold opC; rw [if_neg h,if_pos hw,if_pos hf]
set_option maxHeartbeats 4000000 in
theorem ZjY (J : Al G T g) (hP : HasK g T) (F : Fm) {l : List (Nat × Nat)} {z : Bool} {a b : Nat} (h64 : W64 l) (ha : a < 18446744073709551616) (hb : b < 18446744073709551616) :
  run G T 375 [.int .u8 F.u,ZL z l,zA a b] = some (.int .i64 (opC F l (a,b))):=by
 rw [Zab G T hP.ZjY]
 have n1:=Zhc J F
 by_cases hl : 41 < l.length
 ·rw [ZsT hl]
  have hl' : 41 < (l.length : Int):=by omega
  simp only [zA]
  generalize F.nan = x at *
  repeat' (first | simp only [seval,exC,ZbT,ZB,n1,hl'] | simp (disch:=omega) only [dxB])
 ·have hl' : ¬ 41 < (l.length : Int):=by omega
  obtain ⟨bs',fl',h⟩:=Zna J hP F (z:=z) (p:=.ptr 0 0) (B:=⟨[.int .u64 (a : Int),.int .u64 (b : Int)],false⟩) (l:=l) (by omega) h64 l.length 0 true [] (by omega)
  rw [List.drop_zero] at h
  generalize F.nan = x at *
  rcases h with ⟨h1,h2,h3⟩ | ⟨h1,h3⟩
  ·by_cases hp : a < 2 * F.sg∧b < 2 * F.sg
   ·have c1:=ZbN J F hp.1 hp.2
    have zl:=ZDH (F:=F) (a:=(a,b))
    simp only at zl
    by_cases hf : Zfs F l∧Zf F (a,b)
    ·rw [ZnZ (p:=(a,b)) hl ⟨h1,hp⟩ hf]
     have f1 : fl' = true:=h2.2 ⟨rfl,hf.1⟩
     subst f1
     have c2:=zl.1 hf.2
     generalize zcl (F.cls a) (F.cls b) = c at *
     simp only [zA,cast0] at *
     repeat' (first | simp only [seval,exC,ZbT,ZB,n1,hl',h3,c1,c2] | simp (disch:=omega) only [dxB])
    ·rw [ZnY (p:=(a,b)) hl ⟨h1,hp⟩ hf]
     have fc : fl' = false∨(fl' = true∧¬ zcl (F.cls a) (F.cls b)≤2):=by
      cases fl' with
      | false => exact Or.inl rfl
      | true => exact Or.inr ⟨rfl,fun q => hf ⟨(h2.1 rfl).2,zl.2 q⟩⟩
     generalize zcl (F.cls a) (F.cls b) = c at *
     simp only [zA,cast0] at *
     rcases fc with rfl | ⟨rfl,c2⟩
     ·repeat' (first | simp only [seval,exC,ZbT,ZB,n1,hl',h3,c1] | simp (disch:=omega) only [dxB])
     ·repeat' (first | simp only [seval,exC,ZbT,ZB,n1,hl',h3,c1,c2] | simp (disch:=omega) only [dxB])
   ·rw [Zoa (p:=(a,b)) hl (fun q => hp q.2)]
    have c1:=ZmY J F ha hb hp
    simp only [zA,cast0] at *
    repeat' (first | simp only [seval,exC,ZbT,ZB,n1,hl',h3,c1] | simp (disch:=omega) only [dxB])
  ·rw [Zoa (p:=(a,b)) hl (fun q => h1 q.1)]
   simp only [zA,cast0] at *
   repeat' (first | simp only [seval,exC,ZbT,ZB,n1,hl',h3] | simp (disch:=omega) only [dxB])
theorem Zxt (J : Al G T g) (F : Fm) {l : List (Nat × Nat)} {z : Bool} {h : Heap} (hl : l.length≤4611686018427387904) (h64 : W64 l) : ∀ (m i : Nat),i + m = l.length →
  (Zws F (l.drop i)∧∃ e,evL G T Zdo [(0,.int .u8 F.u),(1,ZL z l),(5,.int .i64 (i : Int))] h = some (.exit 0,e,h))∨(¬ Zws F (l.drop i)∧evL G T Zdo [(0,.int .u8 F.u),(1,ZL z l),(5,.int .i64 (i : Int))] h = some (.ret,[(4,.int .i64 6)],h))
 | 0,i,hi => by
  have he : i = l.length:=by omega
  subst he
  refine Or.inl ⟨by rw [List.drop_length]; exact Zvd,?_⟩
  have hn : ¬ (l.length : Int) < (l.length : Int):=by omega
  rw [Zqy]
  repeat' (first | simp only [seval,exC,ZaF,ZB,hn] | simp (disch:=omega) only [dxB])
  exact ⟨_,rfl⟩
 | m + 1,i,hi => by
  have hil : i < l.length:=by omega
  have hlt : (i : Int) < (l.length : Int):=by omega
  obtain ⟨u1,u2⟩:=h64 _ (Zpu hil)
  have t1 : ((i : Int)).toNat = i:=Int.toNat_natCast i
  have w1 : IntKind.i64.wrap ((i : Int) + 1) = ((i + 1 : Nat) : Int):=by rw [Zac (by omega)]; rfl
  have ia:=Zip (z:=z) (l:=l) (k:=.i64) (j:=(i : Int)) ⟨by omega,by omega⟩
  rw [t1] at ia
  have rd0:=fun mm => ZFv (G:=G) mm hil
  have rd1:=fun mm => ZIb (G:=G) mm hil
  rw [Zjz hil,Zsj]
  have g1:=ZhO J F u1
  have g2:=ZhO J F u2
  have ih:=Zxt J F (z:=z) (h:=h) hl h64 m (i + 1) (by omega)
  rw [Zqy]
  unfold Zw
  generalize zc l i = a at *
  by_cases k1 : a.1 < 2 * F.sg
  ·rw [if_pos k1] at g1
   by_cases k2 : a.2 < 2 * F.sg
   ·rw [if_pos k2] at g2
    rcases ih with ⟨q1,e,q2⟩ | ⟨q1,q2⟩
    ·refine Or.inl ⟨⟨⟨k1,k2⟩,q1⟩,e,?_⟩
     repeat' (first | simp only [seval,exC,ZaF,ZB,hlt,ia,fa_i,rd0,rd1,g1,g2,w1,q2] | simp (disch:=omega) only [dxB])
    ·refine Or.inr ⟨fun q => q1 q.2,?_⟩
     repeat' (first | simp only [seval,exC,ZaF,ZB,hlt,ia,fa_i,rd0,rd1,g1,g2,w1,q2] | simp (disch:=omega) only [dxB])
   ·rw [if_neg k2] at g2
    refine Or.inr ⟨fun q => k2 q.1.2,?_⟩
    repeat' (first | simp only [seval,exC,ZaF,ZB,hlt,ia,fa_i,rd0,rd1,g1,g2] | simp (disch:=omega) only [dxB])
  ·rw [if_neg k1] at g1
   refine Or.inr ⟨fun q => k1 q.1.1,?_⟩
   repeat' (first | simp only [seval,exC,ZaF,ZB,hlt,ia,fa_i,rd0,rd1,g1] | simp (disch:=omega) only [dxB])
open Classical in
theorem Zvx (J : Al G T g) (F : Fm) {l : List (Nat × Nat)} {z : Bool} (hl : l.length≤4611686018427387904) (h64 : W64 l) : run G T 185 [.int .u8 F.u,ZL z l] = some (.int .i64 (if Zws F l then 0 else 6)):=by
 rw [Zab G T J.U.ref10_Good]
 have h1:=Zol J F
 have h:=Zxt J F (z:=z) (h:=⟨[],[]⟩) hl h64 l.length 0 (by omega)
 rw [List.drop_zero,cast0] at h
 rcases h with ⟨q1,e,q2⟩ | ⟨q1,q2⟩
 ·rw [if_pos q1]
  repeat' (first | simp only [seval,exC,Zcs,h1,q2] | simp (disch:=omega) only [dxB])
 ·rw [if_neg q1]
  repeat' (first | simp only [seval,exC,Zcs,h1,q2] | simp (disch:=omega) only [dxB])
theorem ZzR (e : Env) (h : Heap) : evL G T ZcI e h = kS G T (evL G T ZbM (keepE [0,1,5,8] e) h) ZcI:=Zae G T rfl e h
theorem Zlp (J : Al G T g) (F : Fm) {l : List (Nat × Nat)} {z : Bool} {p : AV} {h : Heap} (hl : l.length≤41) (hw : Zws F l) : ∀ (m i : Nat),i + m = l.length →
  (Zfs F (l.drop i)∧evL G T ZcI [(0,.int .u8 F.u),(1,ZL z l),(5,p),(8,.int .i64 (i : Int))] h = some (.exit 0,[(0,.int .u8 F.u),(1,ZL z l),(5,p),(8,.int .i64 (l.length : Int)),(30,.bool false)],h))∨(¬ Zfs F (l.drop i)∧evL G T ZcI [(0,.int .u8 F.u),(1,ZL z l),(5,p),(8,.int .i64 (i : Int))] h = some (.ret,[(6,.int .i64 7)],h))
 | 0,i,hi => by
  have he : i = l.length:=by omega
  subst he
  refine Or.inl ⟨by rw [List.drop_length]; exact Zvc,?_⟩
  have hn : ¬ (l.length : Int) < (l.length : Int):=by omega
  rw [ZzR]
  repeat' (first | simp only [seval,exC,ZbM,ZB,hn] | simp (disch:=omega) only [dxB])
 | m + 1,i,hi => by
  have hil : i < l.length:=by omega
  have hlt : (i : Int) < (l.length : Int):=by omega
  obtain ⟨u1,u2⟩:=hw _ (Zpu hil)
  have t1 : ((i : Int)).toNat = i:=Int.toNat_natCast i
  have w1 : IntKind.i64.wrap ((i : Int) + 1) = ((i + 1 : Nat) : Int):=by rw [Zac (by omega)]; rfl
  have ia:=Zip (z:=z) (l:=l) (k:=.i64) (j:=(i : Int)) ⟨by omega,by omega⟩
  rw [t1] at ia
  have rd:=fun mm => rd_Z (G:=G) mm hil
  rw [Zjz hil,Zsi]
  have f1:=ZaC J F u1 u2
  have ih:=Zlp J F (z:=z) (p:=p) (h:=h) hl hw m (i + 1) (by omega)
  rw [ZzR]
  unfold Zf
  generalize zc l i = a at *
  simp only [zA] at *
  by_cases k1 : F.fin a.1∧F.fin a.2
  ·rw [decide_eq_true k1] at f1
   rcases ih with ⟨q1,q2⟩ | ⟨q1,q2⟩
   ·refine Or.inl ⟨⟨k1,q1⟩,?_⟩
    repeat' (first | simp only [seval,exC,ZbM,ZB,hlt,ia,rd,f1,w1,q2] | simp (disch:=omega) only [dxB])
   ·refine Or.inr ⟨fun q => q1 q.2,?_⟩
    repeat' (first | simp only [seval,exC,ZbM,ZB,hlt,ia,rd,f1,w1,q2] | simp (disch:=omega) only [dxB])
  ·rw [decide_eq_false k1] at f1
   refine Or.inr ⟨fun q => k1 q.1,?_⟩
   repeat' (first | simp only [seval,exC,ZbM,ZB,hlt,ia,rd,f1] | simp (disch:=omega) only [dxB])
set_option maxHeartbeats 4000000 in
theorem Ziv (J : Al G T g) (hP : HasK g T) (F : Fm) {l : List (Nat × Nat)} {z : Bool} {a b : Nat} (h64 : W64 l) (ha : a < 18446744073709551616) (hb : b < 18446744073709551616) :
  run G T 344 [.int .u8 F.u,ZL z l,zA a b] = some (.int .i64 (opC F l (a,b))):=by
 rw [Zab G T hP.Ziv]
 have h1:=Zol J F
 by_cases hl : 41 < l.length
 ·rw [ZsT hl]
  have hl' : 41 < (l.length : Int):=by omega
  simp only [zA]
  repeat' (first | simp only [seval,exC,Zba,ZB,h1,hl'] | simp (disch:=omega) only [dxB])
 ·have hl' : ¬ 41 < (l.length : Int):=by omega
  have g1:=Zvx J F (z:=z) (l:=l) (by omega) h64
  have g2:=Zvw J F ha hb
  by_cases hw : Zws F l
  ·rw [if_pos hw] at g1
   by_cases hp : a < 2 * F.sg∧b < 2 * F.sg
   ·rw [if_pos hp] at g2
    have f2:=ZaC J F hp.1 hp.2
    have ih:=Zlp J F (z:=z) (p:=.ptr 0 0) (h:=⟨[⟨[.int .u64 (a : Int),.int .u64 (b : Int)],false⟩,⟨[.int .u64 (a : Int),.int .u64 (b : Int)],false⟩],fz1 (.int .i64 0) [1]⟩) (l:=l) (by omega) hw l.length 0 (by omega)
    rw [List.drop_zero,cast0] at ih
    rcases ih with ⟨q1,q2⟩ | ⟨q1,q2⟩
    ·by_cases hf : F.fin a∧F.fin b
     ·rw [ZnZ (p:=(a,b)) hl ⟨hw,hp⟩ ⟨q1,hf⟩]
      rw [decide_eq_true hf] at f2
      simp only [zA] at *
      repeat' (first | simp only [seval,exC,Zba,ZB,h1,hl',g1,g2,Zcu,q2,f2] | simp (disch:=omega) only [dxB])
     ·rw [ZnY (p:=(a,b)) hl ⟨hw,hp⟩ (fun q => hf q.2)]
      rw [decide_eq_false hf] at f2
      simp only [zA] at *
      repeat' (first | simp only [seval,exC,Zba,ZB,h1,hl',g1,g2,Zcu,q2,f2] | simp (disch:=omega) only [dxB])
    ·rw [ZnY (p:=(a,b)) hl ⟨hw,hp⟩ (fun q => q1 q.1)]
     simp only [zA] at *
     repeat' (first | simp only [seval,exC,Zba,ZB,h1,hl',g1,g2,Zcu,q2] | simp (disch:=omega) only [dxB])
   ·rw [if_neg hp] at g2
    rw [Zoa (p:=(a,b)) hl (fun q => hp q.2)]
    simp only [zA] at *
    repeat' (first | simp only [seval,exC,Zba,ZB,h1,hl',g1,g2,Zcu] | simp (disch:=omega) only [dxB])
  ·rw [if_neg hw] at g1
   rw [Zoa (p:=(a,b)) hl (fun q => hw q.1)]
   simp only [zA] at *
   repeat' (first | simp only [seval,exC,Zba,ZB,h1,hl',g1] | simp (disch:=omega) only [dxB])
end Go.Cv
namespace Go.Cv
variable {G : Nat→Option (List AV)} {T : Tbl} {g : Nat}
theorem Zir (J : Al G T g) (hP : HasK g T) (F : Fm) {a b : Nat} (ha : a < 2 * F.sg) (hb : b < 2 * F.sg) : run G T 376 [.agg [.int .u8 F.u],zA a b] = some (.int .u64 (uN F (a,b) : Int)):=by
 rw [Zab G T hP.Zir]
 have m1:=Znm J F (md:=4) (by decide) ha hb
 unfold uN
 simp only
 generalize absZ F 4 a b = R at *
 simp only [zA] at *
 repeat' (first | simp only [seval,exC,Zhx,m1] | simp (disch:=omega) only [dxB])
theorem Zis (J : Al G T g) (hP : HasK g T) (F : Fm) {a b : Nat} (ha : a < 2 * F.sg) (hb : b < 2 * F.sg) : run G T 377 [.agg [.int .u8 F.u],.int .u64 (a : Int),.int .u64 (b : Int)] = some (.int .u64 (uA F a b : Int)):=by
 rw [Zab G T hP.Zis]
 have m1:=Zox J F (md:=4) (by decide) ha hb
 unfold uA
 generalize addW F 4 a b = R at *
 repeat' (first | simp only [seval,exC,Zhy,m1] | simp (disch:=omega) only [dxB])
theorem Znp (J : Al G T g) (hP : HasK g T) (F : Fm) {a b : Nat} (ha : a < 2 * F.sg) (hb : b < 2 * F.sg) : run G T 378 [.agg [.int .u8 F.u],.int .u64 (a : Int),.int .u64 (b : Int)] = some (.int .u64 (uM F a b : Int)):=by
 rw [Zab G T hP.Znp]
 have m1:=Zoy J F (md:=4) (by decide) ha hb
 unfold uM
 generalize mulW2 F 4 a b = R at *
 repeat' (first | simp only [seval,exC,Zhz,m1] | simp (disch:=omega) only [dxB])
theorem Zlb (J : Al G T g) (hP : HasK g T) (F : Fm) {w : Nat} (hw : w < 2 * F.sg) : run G T 379 [.agg [.int .u8 F.u],.int .u64 (w : Int)] = some (.int .u64 (uS F w : Int)):=by
 rw [Zab G T hP.Zlb]
 have hF:=ZbH F
 have m1:=ZjT J hP F (md:=4) (by decide) hw (n := -(F.fr + 1 : Nat)) (by omega)
 unfold uS
 generalize scaW F 4 w (-(F.fr + 1 : Nat)) = R at *
 have w1 : IntKind.i64.wrap (0 - 24) = -24:=rfl
 have w2 : IntKind.i64.wrap (0 - 53) = -53:=rfl
 cases F
 ·rw [show -((Fm.s.fr + 1 : Nat) : Int) = -24 from rfl] at m1
  simp only [Fm.u] at *
  repeat' (first | simp only [seval,exC,Zdk,w1,m1] | simp (disch:=omega) only [dxB])
 ·rw [show -((Fm.d.fr + 1 : Nat) : Int) = -53 from rfl] at m1
  simp only [Fm.u] at *
  repeat' (first | simp only [seval,exC,Zdk,w2,m1] | simp (disch:=omega) only [dxB])
theorem ZsX (e : Env) (h : Heap) : evL G T Zhf e h = kS G T (evL G T ZbK (keepE [0,9,10,11] e) h) Zhf:=Zae G T rfl e h
section
variable (x y z : AV) (k : IntKind)
theorem ZBy : iaddrV 1 (.imm 3 [x,y,z]) (.int k 0) = some (.iptr [x,y,z] 0):=rfl
theorem ZBz : iaddrV 1 (.imm 3 [x,y,z]) (.int k 1) = some (.iptr [x,y,z] 1):=rfl
theorem ZBA : iaddrV 1 (.imm 3 [x,y,z]) (.int k 2) = some (.iptr [x,y,z] 2):=rfl
end
theorem Zsq {F : Fm} {w : Nat} : F.fin w↔¬ 4≤F.cls w:=by have:=ZbS F w; rw [Zbu]; omega
set_option maxHeartbeats 4000000 in
theorem Zus (J : Al G T g) (hP : HasK g T) (F : Fm) {a b c : Nat} (ha : a < 2 * F.sg) (hb : b < 2 * F.sg) (hc : c < 2 * F.sg) : run G T 380 [.int .u8 F.u,.imm 3 [.int .u64 (a : Int),.int .u64 (b : Int),.int .u64 (c : Int)]] = some (.bool (decide (F.fin a∧F.fin b∧F.fin c))):=by
 rw [Zab G T hP.poly_finite]
 have c1:=Zby J F ha
 have c2:=Zby J F hb
 have c3:=Zby J F hc
 have e1:=Zsq (F:=F) (w:=a)
 have e2:=Zsq (F:=F) (w:=b)
 have e3:=Zsq (F:=F) (w:=c)
 generalize F.cls a = x at *
 generalize F.cls b = y at *
 generalize F.cls c = z at *
 by_cases h1 : 4≤x
 ·rw [decide_eq_false (fun q => e1.1 q.1 h1)]
  repeat' (first | simp only [seval,exC,Zcy,ZsX,ZbK,ZBy,ZBz,ZBA,rp_0,rp_1,rp_2,c1,h1,wr_1,wr1,wr_2,wr2,wr_3,wr3] | simp (disch:=omega) only [dxB])
 ·by_cases h2 : 4≤y
  ·rw [decide_eq_false (fun q => e2.1 q.2.1 h2)]
   repeat' (first | simp only [seval,exC,Zcy,ZsX,ZbK,ZBy,ZBz,ZBA,rp_0,rp_1,rp_2,c1,h1,c2,h2,wr_1,wr1,wr_2,wr2,wr_3,wr3] | simp (disch:=omega) only [dxB])
  ·by_cases h3 : 4≤z
   ·rw [decide_eq_false (fun q => e3.1 q.2.2 h3)]
    repeat' (first | simp only [seval,exC,Zcy,ZsX,ZbK,ZBy,ZBz,ZBA,rp_0,rp_1,rp_2,c1,h1,c2,h2,c3,h3,wr_1,wr1,wr_2,wr2,wr_3,wr3] | simp (disch:=omega) only [dxB])
   ·rw [decide_eq_true ⟨e1.2 h1,e2.2 h2,e3.2 h3⟩]
    repeat' (first | simp only [seval,exC,Zcy,ZsX,ZbK,ZBy,ZBz,ZBA,rp_0,rp_1,rp_2,c1,h1,c2,h2,c3,h3,wr_1,wr1,wr_2,wr2,wr_3,wr3] | simp (disch:=omega) only [dxB])
theorem ZzE (F : Fm) (z : Nat × Nat) {l : List (Nat × Nat)} {j : Nat} (h : j + 1 < l.length) : pE F z (l.drop j) = stE F z (pE F z (l.drop (j + 1))) (zc l j):=by
 rw [Zjz (show j < l.length by omega),Zjz h]; rfl
theorem ZzJ (e : Env) (h : Heap) : evL G T Zgh e h = kS G T (evL G T Zgg (keepE [0,1,5,6,9,10,11,12,13] e) h) Zgh:=Zae G T rfl e h
def zB (p : Nat × Nat) : Blk:=⟨[.int .u64 (p.1 : Int),.int .u64 (p.2 : Int)],false⟩
set_option maxHeartbeats 16000000 in
theorem ZmZ (J : Al G T g) (hP : HasK g T) (F : Fm) {l : List (Nat × Nat)} {z : Bool} {p : Nat × Nat} {B : Blk} (hl : l.length≤41) (hw : Zws F l) (hp : Zw F p) : ∀ (j : Nat) (bs : List Blk),j < l.length →
  ∃ bs',evL G T Zgh [(0,.int .u8 F.u),(1,ZL z l),(5,.ptr 0 0),(6,.ptr 1 0),(9,.ptr 2 0),(10,.int .u64 (uN F p : Int)),(11,.int .u64 ((pE F p (l.drop j)).2 : Int)),(12,.ptr 3 0),(13,.int .i64 ((j : Int) - 1))]
    ⟨zB p :: B :: ⟨[.int .u8 F.u],false⟩ :: zB (pE F p (l.drop j)).1 :: bs,[]⟩ =
   some (.exit 0,[(0,.int .u8 F.u),(1,ZL z l),(5,.ptr 0 0),(6,.ptr 1 0),(9,.ptr 2 0),(10,.int .u64 (uN F p : Int)),(11,.int .u64 ((pE F p l).2 : Int)),(12,.ptr 3 0),(13,.int .i64 (-1)),(45,.bool false)],⟨zB p :: B :: ⟨[.int .u8 F.u],false⟩ :: zB (pE F p l).1 :: bs',[]⟩)
 | 0,bs,_ => by
  refine ⟨bs,?_⟩
  rw [List.drop_zero,ZzJ]
  generalize pE F p l = s at *
  generalize uN F p = r at *
  simp only [zB]
  repeat' (first | simp only [seval,exC,Zgg,cast0,Int.zero_sub] | simp (disch:=omega) only [dxB])
 | j + 1,bs,hj => by
  have hjl : j < l.length:=by omega
  have ih:=ZmZ J hP F (z:=z) (p:=p) (B:=B) hl hw hp j
  have wa:=hw _ (Zpu hjl)
  have ws:=pE_w F p (l.drop (j + 1)) (fun a ha => hw a (List.mem_of_mem_drop ha))
  have hs:=ZzE F p hj
  rw [hs] at ih
  have wp:=zM_w F (pE F p (l.drop (j + 1))).1 p
  have wq:=zP_w F (zM F (pE F p (l.drop (j + 1))).1 p) (zc l j)
  have m1:=Zqv J F (md:=1) (by decide) ws.1.1 ws.1.2 hp.1 hp.2
  have m2:=Zqt J F (md:=1) (by decide) wp.1 wp.2 wa.1 wa.2
  have l2:=ZxX F p
  have u1:=Znp J hP F ws.2 l2
  have u2:=Zir J hP F wp.1 wp.2
  have u3:=Zir J hP F wq.1 wq.2
  have u4:=Zis J hP F (ZxX F (zM F (pE F p (l.drop (j + 1))).1 p)) (ZxX F (zP F (zM F (pE F p (l.drop (j + 1))).1 p) (zc l j)))
  have l3 : uA F (uN F (zM F (pE F p (l.drop (j + 1))).1 p)) (uN F (zP F (zM F (pE F p (l.drop (j + 1))).1 p) (zc l j))) < 2 * F.sg:=Znd F (by decide)
  have u5:=Zlb J hP F l3
  have l4 : uS F (uA F (uN F (zM F (pE F p (l.drop (j + 1))).1 p)) (uN F (zP F (zM F (pE F p (l.drop (j + 1))).1 p) (zc l j)))) < 2 * F.sg:=Ztg F (by decide) l3 _
  have u6:=Zis J hP F l4 (ZIO F).1
  have u7:=Zis J hP F (a:=uM F (pE F p (l.drop (j + 1))).2 (uN F p)) (b:=uA F (uS F (uA F (uN F (zM F (pE F p (l.drop (j + 1))).1 p)) (uN F (zP F (zM F (pE F p (l.drop (j + 1))).1 p) (zc l j))))) 2) (ZsK F (by decide)) (Znd F (by decide))
  have t1 : ((j : Int)).toNat = j:=Int.toNat_natCast j
  have e1 : ((j + 1 : Nat) : Int) - 1 = j:=by omega
  have j0 : 0≤(j : Int):=by omega
  have w1 : IntKind.i64.wrap ((j : Int) - 1) = (j : Int) - 1:=Zac (by omega)
  have ia:=Zip (z:=z) (l:=l) (k:=.i64) (j:=(j : Int)) ⟨by omega,by omega⟩
  rw [t1] at ia
  have rd:=fun mm => rd_Z (G:=G) mm hjl
  rw [e1,ZzJ]
  unfold stE at ih
  have mZ : zM F (pE F p (l.drop (j + 1))).1 p = ((mulZ F 1 (pE F p (l.drop (j + 1))).1.1 (pE F p (l.drop (j + 1))).1.2 p.1 p.2).1.1,(mulZ F 1 (pE F p (l.drop (j + 1))).1.1 (pE F p (l.drop (j + 1))).1.2 p.1 p.2).2.1):=rfl
  generalize mulZ F 1 (pE F p (l.drop (j + 1))).1.1 (pE F p (l.drop (j + 1))).1.2 p.1 p.2 = M at *
  have mP : zP F (zM F (pE F p (l.drop (j + 1))).1 p) (zc l j) = ((addW F 1 (zM F (pE F p (l.drop (j + 1))).1 p).1 (zc l j).1).1,(addW F 1 (zM F (pE F p (l.drop (j + 1))).1 p).2 (zc l j).2).1):=rfl
  generalize addW F 1 (zM F (pE F p (l.drop (j + 1))).1 p).1 (zc l j).1 = A1 at *
  generalize addW F 1 (zM F (pE F p (l.drop (j + 1))).1 p).2 (zc l j).2 = A2 at *
  generalize zP F (zM F (pE F p (l.drop (j + 1))).1 p) (zc l j) = q at *
  generalize zM F (pE F p (l.drop (j + 1))).1 p = pp at *
  subst mZ mP
  generalize pE F p (l.drop (j + 1)) = s at *
  generalize zc l j = a at *
  generalize uA F (uM F s.2 (uN F p)) (uA F (uS F (uA F (uN F (M.1.1,M.2.1)) (uN F (A1.1,A2.1)))) 2) = V7 at *
  generalize uA F (uS F (uA F (uN F (M.1.1,M.2.1)) (uN F (A1.1,A2.1)))) 2 = V6 at *
  generalize uS F (uA F (uN F (M.1.1,M.2.1)) (uN F (A1.1,A2.1))) = V5 at *
  generalize uA F (uN F (M.1.1,M.2.1)) (uN F (A1.1,A2.1)) = V4 at *
  generalize uM F s.2 (uN F p) = V1 at *
  generalize uN F (M.1.1,M.2.1) = V2 at *
  generalize uN F (A1.1,A2.1) = V3 at *
  generalize uN F p = r at *
  clear l2 l3 l4 wp wq ws wa hs
  obtain ⟨bs',ih⟩:=ih (bs ++ [⟨[.int .u64 (M.1.1 : Int),.int .u64 (M.2.1 : Int),.int .u8 (M.1.2 : Int),.int .u8 (M.2.2 : Int)],false⟩,⟨[.int .u64 (A1.1 : Int),.int .u64 (A2.1 : Int),.int .u8 (A1.2 : Int),.int .u8 (A2.2 : Int)],false⟩]) hjl
  refine ⟨bs',?_⟩
  rw [← ih]
  simp only [zB,zA,zrA,Int.cast_ofNat_Int] at *
  repeat' (first | simp only [seval,exC,Zgg,j0,m1,m2,u1,u2,u3,u4,u5,u6,u7,ia,rd,gaB,ZB,w1] | simp (disch:=omega) only [dxB])
end Go.Cv
namespace Go.Cv
variable {G : Nat→Option (List AV)} {T : Tbl} {g : Nat}
def vlA (y : Nat × Nat) (b : Nat) : AV:=.agg [.int .u64 (y.1 : Int),.int .u64 (y.2 : Int),.int .u64 (b : Int)]
noncomputable def evE (F : Fm) (p : Nat × Nat) (l : List (Nat × Nat)) : (Nat × Nat) × Nat:=if l = [] then ((0,0),0) else ((pE F p l).1,bdE F (pE F p l))
theorem Zub {l : List (Nat × Nat)} {n : Nat} (h : l.length = n + 1) : l.drop n = [zc l n]:=by rw [Zjz (by omega),List.drop_eq_nil_of_le (by omega)]
set_option maxHeartbeats 16000000 in
theorem Ziq (J : Al G T g) (hP : HasK g T) (F : Fm) {l : List (Nat × Nat)} {z : Bool} {a b : Nat} (h64 : W64 l) (ha : a < 18446744073709551616) (hb : b < 18446744073709551616) (h : opC F l (a,b) = 0) (hl : ¬ 41 < l.length) (hw : Zws F l) (hp : Zw F (a,b)) :
  run G T 342 [.int .u8 F.u,ZL z l,zA a b] = some (.tup [vlA (evE F (a,b) l).1 (evE F (a,b) l).2,.int .i64 0]):=by
 rw [Zab G T hP.Ziq]
 have o1:=ZjY J hP F (z:=z) h64 ha hb
 rw [h] at o1
 unfold evE
 by_cases h0 : l = []
 ·rw [if_pos h0]
  have hn : (l.length : Int) = 0:=by rw [h0]; rfl
  simp only [zA,vlA,cast0] at *
  repeat' (first | simp only [seval,exC,Zeu,ZB,o1,hn] | simp (disch:=omega) only [dxB])
 ·rw [if_neg h0]
  obtain ⟨n,hln⟩ : ∃ n,l.length = n + 1:=⟨l.length - 1,by have : l.length≠0:=fun q => h0 (List.length_eq_zero_iff.1 q); omega⟩
  have hn : ¬ (l.length : Int) = 0:=by omega
  have w1 : IntKind.i64.wrap ((l.length : Int) - 1) = (n : Int):=by rw [Zac (by omega)]; omega
  have w2 : IntKind.i64.wrap ((l.length : Int) - 2) = (n : Int) - 1:=by rw [Zac (by omega)]; omega
  have t1 : ((n : Int)).toNat = n:=Int.toNat_natCast n
  have ia:=Zip (z:=z) (l:=l) (k:=.i64) (j:=(n : Int)) ⟨by omega,by omega⟩
  rw [t1] at ia
  have rd:=fun mm => rd_Z (G:=G) mm (show n < l.length by omega)
  have u1:=Zir J hP F hp.1 hp.2
  obtain ⟨bs,lp⟩:=ZmZ J hP F (z:=z) (p:=(a,b)) (B:=⟨[.int .u64 0,.int .u64 0,.int .u64 0],false⟩) (by omega) hw hp n [] (by omega)
  rw [Zub hln] at lp
  rw [show pE F (a,b) [zc l n] = (zc l n,0) from rfl] at lp
  have ws:=pE_w F (a,b) l hw
  have f1:=Zus J hP F ws.1.1 ws.1.2 ws.2
  have i1:=Zjp J F (n:=false)
  unfold bdE
  generalize pE F (a,b) l = s at *
  generalize zc l n = c at *
  generalize uN F (a,b) = r at *
  generalize F.inf false = inf at *
  simp only [zB,zA,vlA,cast0] at *
  by_cases hf : F.fin s.1.1∧F.fin s.1.2∧F.fin s.2
  ·rw [decide_eq_true hf] at f1
   rw [if_pos hf]
   repeat' (first | simp only [seval,exC,Zeu,gaB,ZB,Zph,ZzN,o1,hn,u1,w1,w2,ia,rd,lp,f1] | simp (disch:=omega) only [dxB])
  ·rw [decide_eq_false hf] at f1
   rw [if_neg hf]
   repeat' (first | simp only [seval,exC,Zeu,gaB,ZB,Zph,ZzN,o1,hn,u1,w1,w2,ia,rd,lp,f1,i1] | simp (disch:=omega) only [dxB])
theorem ZsZ (J : Al G T g) (hP : HasK g T) {f e : Int} {l : AV} {a b : Nat} (he : e≠0) (h : run G T 375 [.int .u8 f,l,zA a b] = some (.int .i64 e)) (hs : ∀ gg,snapA gg l = some l) :
  run G T 342 [.int .u8 f,l,zA a b] = some (.tup [vlA (0,0) 0,.int .i64 e]):=by
 rw [Zab G T hP.Ziq]
 simp only [zA,vlA,cast0] at *
 repeat' (first | simp only [seval,exC,Zeu,hs,h,he] | simp (disch:=omega) only [dxB])
theorem ZoY (J : Al G T g) (hP : HasK g T) (F : Fm) {p q : Nat × Nat} (hp : Zw F p) (hq : Zw F q) : run G T 381 [.int .u8 F.u,zA p.1 p.2,zA q.1 q.2] = some (.int .u64 (uA F (uS F (uA F (uN F p) (uN F q))) 2 : Int)):=by
 rw [Zab G T hP.ZoY]
 have hF:=ZbH F
 have a1:=ZlV J F (md:=4) (by decide) hp.1 hp.2
 have a2:=ZlV J F (md:=4) (by decide) hq.1 hq.2
 have l1 : (absZ F 4 p.1 p.2).1 < 2 * F.sg:=ZxX F p
 have l2 : (absZ F 4 q.1 q.2).1 < 2 * F.sg:=ZxX F q
 have s1:=Zeg J F (md:=4) (by decide) l1 l2
 have l3 : (addW F 4 (absZ F 4 p.1 p.2).1 (absZ F 4 q.1 q.2).1).1 < 2 * F.sg:=Znd F (by decide)
 have c1:=Ziu J hP F (md:=4) (by decide) l3 (n := -(F.fr + 1 : Nat)) (by omega)
 have l4 : (scaW F 4 (addW F 4 (absZ F 4 p.1 p.2).1 (absZ F 4 q.1 q.2).1).1 (-(F.fr + 1 : Nat))).1 < 2 * F.sg:=Ztg F (by decide) l3 _
 have s2:=Zeg J F (md:=4) (by decide) l4 (ZIO F).1
 have r1:=ZdO J F
 have w1 : IntKind.i64.wrap (0 - (F.fr : Int)) = -(F.fr : Int):=by rw [Int.zero_sub]; exact Zac (by omega)
 have w2 : IntKind.i64.wrap (-(F.fr : Int) - 1) = -((F.fr + 1 : Nat) : Int):=by rw [Zac (by omega)]; omega
 unfold uA uS uN
 generalize addW F 4 (scaW F 4 (addW F 4 (absZ F 4 p.1 p.2).1 (absZ F 4 q.1 q.2).1).1 (-(F.fr + 1 : Nat))).1 2 = R4 at *
 generalize scaW F 4 (addW F 4 (absZ F 4 p.1 p.2).1 (absZ F 4 q.1 q.2).1).1 (-(F.fr + 1 : Nat)) = R3 at *
 generalize addW F 4 (absZ F 4 p.1 p.2).1 (absZ F 4 q.1 q.2).1 = R2 at *
 generalize absZ F 4 p.1 p.2 = R0 at *
 generalize absZ F 4 q.1 q.2 = R1 at *
 generalize -((F.fr + 1 : Nat) : Int) = nn at *
 generalize (F.fr : Int) = fr at *
 simp only [zA,Int.cast_ofNat_Int] at *
 repeat' (first | simp only [seval,exC,ZiY,a1,a2,s1,r1,w1,w2,c1,s2] | simp (disch:=omega) only [dxB])
theorem ZtV (x y z w : AV) : fieldA true 0 2 (.agg [x,y,z,w]) = some (.agg [x,y]):=rfl
theorem ZvD (e : Env) (h : Heap) : evL G T Zfr e h = kS G T (evL G T Zdr (keepE [0,1,5,6,7,9,11,12] e) h) Zfr:=Zae G T rfl e h
set_option maxHeartbeats 16000000 in
theorem ZlW (J : Al G T g) (hP : HasK g T) (F : Fm) {l : List (Nat × Nat)} {z : Bool} {p : Nat × Nat} {B : Blk} (hl : l.length≤41) (hw : Zws F l) (hp : Zw F p) : ∀ (j : Nat) (bs : List Blk),j < l.length →
  ∃ bs',evL G T Zfr [(0,.int .u8 F.u),(1,ZL z l),(5,.ptr 0 0),(6,.ptr 1 0),(7,.ptr 2 0),(9,.int .u64 (uN F p : Int)),(11,.int .u64 ((pE F p (l.drop j)).2 : Int)),(12,.int .i64 ((j : Int) - 1))]
    ⟨zB p :: B :: zB (pE F p (l.drop j)).1 :: bs,[]⟩ =
   some (.exit 0,[(0,.int .u8 F.u),(1,ZL z l),(5,.ptr 0 0),(6,.ptr 1 0),(7,.ptr 2 0),(9,.int .u64 (uN F p : Int)),(11,.int .u64 ((pE F p l).2 : Int)),(12,.int .i64 (-1)),(34,.bool false)],⟨zB p :: B :: zB (pE F p l).1 :: bs',[]⟩)
 | 0,bs,_ => by
  refine ⟨bs,?_⟩
  rw [List.drop_zero,ZvD]
  generalize pE F p l = s at *
  generalize uN F p = r at *
  simp only [zB]
  repeat' (first | simp only [seval,exC,Zdr,cast0,Int.zero_sub] | simp (disch:=omega) only [dxB])
 | j + 1,bs,hj => by
  have hjl : j < l.length:=by omega
  have ih:=ZlW J hP F (z:=z) (p:=p) (B:=B) hl hw hp j
  have wa:=hw _ (Zpu hjl)
  have ws:=pE_w F p (l.drop (j + 1)) (fun a ha => hw a (List.mem_of_mem_drop ha))
  have hs:=ZzE F p hj
  rw [hs] at ih
  have wp:=zM_w F (pE F p (l.drop (j + 1))).1 p
  have wq:=zP_w F (zM F (pE F p (l.drop (j + 1))).1 p) (zc l j)
  have m1:=Zrd J F (md:=1) (by decide) ws.1.1 ws.1.2 hp.1 hp.2
  have m2:=Zrb J F (md:=1) (by decide) wp.1 wp.2 wa.1 wa.2
  have u1:=ZfJ J F (md:=4) (by decide) ws.2 (ZxX F p)
  have u2:=ZoY J hP F wp wq
  have u3:=Zeg J F (md:=4) (by decide) (a:=uM F (pE F p (l.drop (j + 1))).2 (uN F p)) (b:=uA F (uS F (uA F (uN F (zM F (pE F p (l.drop (j + 1))).1 p)) (uN F (zP F (zM F (pE F p (l.drop (j + 1))).1 p) (zc l j))))) 2) (ZsK F (by decide)) (Znd F (by decide))
  have t1 : ((j : Int)).toNat = j:=Int.toNat_natCast j
  have e1 : ((j + 1 : Nat) : Int) - 1 = j:=by omega
  have j0 : 0≤(j : Int):=by omega
  have w1 : IntKind.i64.wrap ((j : Int) - 1) = (j : Int) - 1:=Zac (by omega)
  have ia:=Zip (z:=z) (l:=l) (k:=.i64) (j:=(j : Int)) ⟨by omega,by omega⟩
  rw [t1] at ia
  have rd:=fun mm => rd_Z (G:=G) mm hjl
  rw [e1,ZvD]
  unfold stE at ih
  have mZ : zM F (pE F p (l.drop (j + 1))).1 p = ((mulZ F 1 (pE F p (l.drop (j + 1))).1.1 (pE F p (l.drop (j + 1))).1.2 p.1 p.2).1.1,(mulZ F 1 (pE F p (l.drop (j + 1))).1.1 (pE F p (l.drop (j + 1))).1.2 p.1 p.2).2.1):=rfl
  generalize mulZ F 1 (pE F p (l.drop (j + 1))).1.1 (pE F p (l.drop (j + 1))).1.2 p.1 p.2 = M at *
  have mP : zP F (zM F (pE F p (l.drop (j + 1))).1 p) (zc l j) = ((addW F 1 (zM F (pE F p (l.drop (j + 1))).1 p).1 (zc l j).1).1,(addW F 1 (zM F (pE F p (l.drop (j + 1))).1 p).2 (zc l j).2).1):=rfl
  generalize addW F 1 (zM F (pE F p (l.drop (j + 1))).1 p).1 (zc l j).1 = A1 at *
  generalize addW F 1 (zM F (pE F p (l.drop (j + 1))).1 p).2 (zc l j).2 = A2 at *
  generalize zP F (zM F (pE F p (l.drop (j + 1))).1 p) (zc l j) = q at *
  generalize zM F (pE F p (l.drop (j + 1))).1 p = pp at *
  subst mZ mP
  generalize pE F p (l.drop (j + 1)) = s at *
  generalize zc l j = a at *
  generalize uA F (uS F (uA F (uN F (M.1.1,M.2.1)) (uN F (A1.1,A2.1)))) 2 = V6 at *
  unfold uA uM at ih
  unfold uM at u3
  generalize mulW2 F 4 s.2 (uN F p) = V1 at *
  generalize addW F 4 V1.1 V6 = V7 at *
  generalize uN F p = r at *
  clear wp wq ws wa hs
  obtain ⟨bs',ih⟩:=ih (bs ++ [⟨[.int .u64 (M.1.1 : Int),.int .u64 (M.2.1 : Int)],false⟩]) hjl
  refine ⟨bs',?_⟩
  rw [← ih]
  simp only [zB,zA,zrA] at *
  repeat' (first | simp only [seval,exC,Zdr,ZtV,j0,m1,m2,u1,u2,u3,ia,rd,gaB,ZB,w1] | simp (disch:=omega) only [dxB])
set_option maxHeartbeats 16000000 in
theorem ZhR (J : Al G T g) (hP : HasK g T) (F : Fm) {l : List (Nat × Nat)} {z : Bool} {a b : Nat} (hl : ¬ 41 < l.length) (hw : Zws F l) (hp : Zw F (a,b)) :
  run G T 346 [.int .u8 F.u,ZL z l,zA a b] = some (vlA (evE F (a,b) l).1 (evE F (a,b) l).2):=by
 rw [Zab G T hP.ZhR]
 have a1:=ZlV J F (md:=4) (by decide) hp.1 hp.2
 unfold evE
 by_cases h0 : l = []
 ·rw [if_pos h0]
  have hn : (l.length : Int) = 0:=by rw [h0]; rfl
  have w1 : IntKind.i64.wrap (0 - 1) = -1:=rfl
  have w2 : IntKind.i64.wrap (-1 - 1) = -2:=rfl
  have z0 : (0 : Nat) < 2 * F.sg:=by cases F <;> decide
  have zf : F.fin 0:=Zbu.2 (Or.inl (Zix F false).2.2.1)
  have f1:=ZaC J F z0 z0
  have f2:=ZeM J F (ZaP z0)
  rw [decide_eq_true ⟨zf,zf⟩] at f1
  rw [decide_eq_true zf] at f2
  generalize absZ F 4 a b = R at *
  simp only [zA,vlA,cast0] at *
  repeat' (first | simp only [seval,exC,Zdq,ZB,hn,w1,w2,a1,ZvD,Zdr,f1,f2] | simp (disch:=omega) only [dxB])
 ·rw [if_neg h0]
  obtain ⟨n,hln⟩ : ∃ n,l.length = n + 1:=⟨l.length - 1,by have : l.length≠0:=fun q => h0 (List.length_eq_zero_iff.1 q); omega⟩
  have n0 : 0≤(n : Int):=by omega
  have w1 : IntKind.i64.wrap ((l.length : Int) - 1) = (n : Int):=by rw [Zac (by omega)]; omega
  have w2 : IntKind.i64.wrap ((n : Int) - 1) = (n : Int) - 1:=Zac (by omega)
  have t1 : ((n : Int)).toNat = n:=Int.toNat_natCast n
  have ia:=Zip (z:=z) (l:=l) (k:=.i64) (j:=(n : Int)) ⟨by omega,by omega⟩
  rw [t1] at ia
  have rd:=fun mm => rd_Z (G:=G) mm (show n < l.length by omega)
  obtain ⟨bs,lp⟩:=ZlW J hP F (z:=z) (p:=(a,b)) (B:=⟨[.int .u64 0,.int .u64 0,.int .u64 0],false⟩) (by omega) hw hp n [] (by omega)
  rw [Zub hln] at lp
  rw [show pE F (a,b) [zc l n] = (zc l n,0) from rfl] at lp
  have ws:=pE_w F (a,b) l hw
  have f1:=ZaC J F ws.1.1 ws.1.2
  have f2:=ZeM J F (ZaP ws.2)
  have i1:=ZgU J F (n:=false)
  unfold bdE
  unfold uN at lp
  simp only at lp
  generalize absZ F 4 a b = R at *
  generalize pE F (a,b) l = s at *
  generalize zc l n = c at *
  generalize F.inf false = inf at *
  simp only [zB,zA,vlA,cast0] at *
  by_cases k1 : F.fin s.1.1∧F.fin s.1.2
  ·rw [decide_eq_true k1] at f1
   by_cases k2 : F.fin s.2
   ·rw [decide_eq_true k2] at f2
    rw [if_pos ⟨k1.1,k1.2,k2⟩]
    repeat' (first | simp only [seval,exC,Zdq,ZB,n0,w1,w2,a1,ia,rd,lp,f1,f2] | simp (disch:=omega) only [dxB])
   ·rw [decide_eq_false k2] at f2
    rw [if_neg (fun q => k2 q.2.2)]
    repeat' (first | simp only [seval,exC,Zdq,ZB,n0,w1,w2,a1,ia,rd,lp,f1,f2,i1] | simp (disch:=omega) only [dxB])
  ·rw [decide_eq_false k1] at f1
   rw [if_neg (fun q => k1 ⟨q.1,q.2.1⟩)]
   repeat' (first | simp only [seval,exC,Zdq,ZB,n0,w1,w2,a1,ia,rd,lp,f1,i1] | simp (disch:=omega) only [dxB])
theorem ZrG (J : Al G T g) (hP : HasK g T) {f : Int} (h : ¬ (f = 1∨f = 2)) {z : Bool} {l : List (Nat × Nat)} {a b : Nat} : run G T 344 [.int .u8 f,ZL z l,zA a b] = some (.int .i64 4):=by
 rw [Zab G T hP.Ziv]
 have h1:=ZpM J (f:=f)
 rw [decide_eq_false h] at h1
 simp only [zA]
 repeat' (first | simp only [seval,exC,Zba,ZB,h1] | simp (disch:=omega) only [dxB])
theorem ZHe {X r : Nat} (h1 : r * r≤X) (h2 : X < (r + 1) * (r + 1)) : isq X = r:=by
 obtain ⟨k1,k2⟩:=Zgy X
 have a : isq X < r + 1:=Nat.lt_of_not_le fun h => absurd (Nat.le_trans (Nat.mul_le_mul h h) k1) (by omega)
 have b : r < isq X + 1:=Nat.lt_of_not_le fun h => absurd (Nat.le_trans (Nat.mul_le_mul h h) h1) (by omega)
 omega
def uNk (F : Fm) (p : Nat × Nat) (r w : Nat) : Bool :=
 let d:=sqD F p.1 p.2
 let X:=d.m * 2 ^ rootP d.e
 decide (zcl (F.cls p.1) (F.cls p.2)≠3) && decide (zcl (F.cls p.1) (F.cls p.2)≠4) && decide (d.m≠0) && decide (r * r≤X) && decide (X < (r + 1) * (r + 1)) && decide ((sW F 4 false r (!decide (r * r = X)) ((d.e - (rootP d.e : Nat)) / 2)).1 = w)
theorem uN_k {F : Fm} {p : Nat × Nat} {r w : Nat} (h : uNk F p r w = true) : uN F p = w:=by
 simp only [uNk,Bool.and_eq_true,decide_eq_true_eq] at h
 obtain ⟨⟨⟨⟨⟨h1,h2⟩,h3⟩,h4⟩,h5⟩,h6⟩:=h
 unfold uN absZ toldW rtW rootW
 rw [if_neg h1,if_neg h2,if_neg h3,ZHe h4 h5]
 exact h6
theorem ZIX (a b a' b' : Int) : eqsA false [false,false] (.agg [.int .u64 a,.int .u64 b]) (.agg [.int .u64 a',.int .u64 b']) = some (.bool (decide (a = a'∧b = b'))):=by
 simp [eqsA,kindsA,eqCells,Bool.decide_and]
 all_goals rfl
theorem ZGl (a b a' b' : Int) : eqsA true [false,false] (.agg [.int .u64 a,.int .u64 b]) (.agg [.int .u64 a',.int .u64 b']) = some (.bool (!decide (a = a'∧b = b'))):=by
 simp [eqsA,kindsA,eqCells,Bool.decide_and]
 all_goals rfl
theorem ZKp (h : Mem) (z : Bool) (l : List (Nat × Nat)) : sliceCells h 2 (ZL z l) = some (l.length,zcells l):=by
 unfold ZL
 split
 ·next q => rw [q.2]; rfl
 ·simp only [sliceCells]; rw [if_pos (Zbz l)]
theorem Zyk {bs : List Blk} {f : List Nat} {b : Nat} {z : Bool} {l : List (Nat × Nat)} (hb : bs[b]? = some ⟨[],false⟩) (hf : f.contains b = false) (hl : l.length * 16≤140737488351232) :
  appV ⟨bs,f⟩ 2 16 (.own b 0 0 2) (ZL z l) = some (.own bs.length 0 l.length 2,⟨bs.set b ⟨[],true⟩ ++ [⟨zcells l,false⟩],f⟩):=by
 simp only [appV,ZKp,hb]
 rw [if_pos (by refine ⟨trivial,trivial,hf,by simp,?_⟩; simp only [boundApp]; omega)]
 simp
theorem ZnA (F : CallF) (d : Option Nat) (os : List IOper) (e : Env) (h : Heap) (zero : List AV) : evOps G F (⟨d,.bslice 0 2 zero [],none⟩ :: os) e h =
  evOps G F os (putE d (.own h.b.length 0 0 2) e) ⟨h.b ++ [⟨[],false⟩],h.f⟩:=by
 rw [Zhb]; rfl
theorem Zmc (F : CallF) (d : Option Nat) (os : List IOper) (e : Env) (h : Heap) (zero : List AV) (ps : List (Nat × Nat × IOpd)) : evOps G F (⟨d,.bslice 1 2 zero ps,none⟩ :: os) e h =
  kBs G F (fillA zero (ps.map fun (o,n,x) => (o,n,opd e x))) (.own h.b.length 0 1 2) d os e h:=by
 have:=Zhb G F d os e h 1 2 zero ps
 rwa [show repA 1 zero = zero by simp [repA]] at this
theorem ZvQ {l : List (Nat × Nat)} {i : Nat} {w : List AV} (h : i < l.length) : ((zcells l ++ w).drop (i * 2)).take 2 = [.int .u64 ((zc l i).1 : Int),.int .u64 ((zc l i).2 : Int)]:=by
 rw [List.drop_append_of_le_length (by rw [Zbz]; omega),List.take_append_of_le_length (by rw [List.length_drop,Zbz]; omega),Zsg h]
theorem ZuJ (gg : Nat→Nat→Nat→Nat→Option AV) : ∀ l : List (Nat × Nat),snapL gg (zcells l) = some (zcells l)
 | [] => rfl
 | p :: l => by rw [zcells,Znx,Znx,ZuJ gg l,Zrl,Zrl,Zga,Zga]
theorem sg_Z {h : Mem} {b d : Nat} {l : List (Nat × Nat)} (hr : rdBlk h b 0 (l.length * 2) = some (zcells l)) : snapG h (d + 1) b 0 l.length 2 = some (ZL false l):=by
 simp only [snapG]; rw [hr]; simp only; rw [ZuJ]; unfold ZL; rw [if_neg (by simp)]; rfl
theorem ZoQ {bs : List Blk} {f : List Nat} {k : Nat} {l : List (Nat × Nat)} {w : List AV} (hb : bs[k]? = some ⟨zcells l ++ w,false⟩) : rdBlk (Heap.mem ⟨bs,f⟩) k 0 (l.length * 2) = some (zcells l):=by
 rw [Znr,hb,Zrp,sub,if_pos (by rw [List.length_append,Zbz]; omega),List.drop_zero,← Zbz,List.take_left]
theorem ZuW (J : Al G T g) {f : Int} (h : ¬ (f = 1∨f = 2)) : run G T 196 [.int .u8 f] = some (.tup [.int .u64 0,.int .i64 4]):=by
 have h0 : run G T 58 [.int .u8 f,.bool false,.fn 204 []] = some (.tup [.int .u64 0,.int .i64 4]):=by
  rw [Zab G T J.D.Zgd]
  have h1:=ZuZ J h (v:=.nil)
  simp only [sh0] at *
  repeat' (first | simp only [seval,exC,ZgP,h1] | simp (disch:=omega) only [dxB])
 rw [Zab G T J.U.Zhc]
 repeat' (first | simp only [seval,exC,Zin,h0] | simp (disch:=omega) only [dxB])
theorem Zut (J : Al G T g) (hP : HasK g T) {f : Int} (h : ¬ (f = 1∨f = 2)) {z : Bool} {l : List (Nat × Nat)} {a b : Nat} : run G T 375 [.int .u8 f,ZL z l,zA a b] = some (.int .i64 4):=by
 rw [Zab G T hP.ZjY]
 have n1:=ZuW J h
 simp only [zA]
 repeat' (first | simp only [seval,exC,ZbT,ZB,n1] | simp (disch:=omega) only [dxB])
theorem zasked (J : Al G T g) (hP : HasK g T) {f : Int} {z : Bool} {l : List (Nat × Nat)} {a b : Nat} (h64 : W64 l) (ha : a < 18446744073709551616) (hb : b < 18446744073709551616) :
  (∃ e,e≠0∧∀ y,run G T 344 [.int .u8 f,ZL y l,zA a b] = some (.int .i64 e)∧run G T 375 [.int .u8 f,ZL y l,zA a b] = some (.int .i64 e)) ∨
  (∃ F,f = Fm.u F∧(∀ y,run G T 344 [.int .u8 f,ZL y l,zA a b] = some (.int .i64 0))∧opC F l (a,b) = 0∧¬ 41 < l.length∧Zws F l∧Zw F (a,b)∧Zfs F l∧Zf F (a,b)):=by
 by_cases hf : f = 1∨f = 2
 ·obtain ⟨F,rfl⟩:=ZJz hf
  have o:=fun y => Ziv J hP F (z:=y) h64 ha hb
  have p:=fun y => ZjY J hP F (z:=y) h64 ha hb
  by_cases h1 : 41 < l.length
  ·rw [ZsT (F:=F) (p:=(a,b)) h1] at o p; exact Or.inl ⟨3,by decide,fun y => ⟨o y,p y⟩⟩
  ·by_cases h2 : Zws F l∧Zw F (a,b)
   ·by_cases h3 : Zfs F l∧Zf F (a,b)
    ·have e:=ZnZ h1 h2 h3
     rw [e] at o
     exact Or.inr ⟨F,rfl,o,e,h1,h2.1,h2.2,h3.1,h3.2⟩
    ·rw [ZnY h1 h2 h3] at o p; exact Or.inl ⟨7,by decide,fun y => ⟨o y,p y⟩⟩
   ·rw [Zoa h1 h2] at o p; exact Or.inl ⟨6,by decide,fun y => ⟨o y,p y⟩⟩
 ·exact Or.inl ⟨4,by decide,fun y => ⟨ZrG J hP hf,Zut J hP hf⟩⟩
def fI (F : Fm) (k : Nat) : Nat:=(rndW F 1 (intD (k : Int))).1
theorem ZBs (F : Fm) (k : Nat) : fI F k < 2 * F.sg:=Zvz F (by decide) _
theorem Zwx (n : Nat) : intD (n : Int) = mkD false n 0:=by
 unfold intD; rw [decide_eq_false (by omega),Int.natAbs_natCast]
theorem Zxn {n : Nat} (h : n≤41) (h0 : n≠0) : tz n≤5:=by
 have hs:=(ZfL h0).1
 rcases Nat.lt_or_ge 5 (tz n) with q | q
 ·exfalso
  have h2 : 2 ^ 6≤2 ^ tz n:=Nat.pow_le_pow_right (by decide) q
  have h3 : n / 2 ^ tz n≠0:=fun q0 => by rw [q0,Nat.zero_mul] at hs; exact h0 hs
  have h4 : 1 * 2 ^ tz n≤n / 2 ^ tz n * 2 ^ tz n:=Nat.mul_le_mul_right _ (Nat.pos_of_ne_zero h3)
  rw [Nat.one_mul] at h4
  have h5 : 2 ^ 6≤n:=Nat.le_trans (Nat.le_trans h2 h4) (Nat.le_of_eq hs.symm)
  omega
 ·exact q
theorem ZCT {n : Nat} (h : n≤41) : Bd (intD (n : Int)) 6:=by
 rw [Zwx]
 have hb : blen n≤6:=Zaf.2 (by rw [show (2 : Nat) ^ 6 = 64 from rfl]; omega)
 by_cases h0 : n = 0
 ·subst h0
  exact ⟨by decide,by decide,by decide⟩
 ·have ht:=Zxn h h0
  rw [Zal h0]
  exact ⟨Nat.le_trans (Zap (Nat.div_le_self _ _)) hb,by simp only; omega,by simp only; omega⟩
theorem ZpB (J : Al G T g) {n : Nat} (h : n≤41) : ∃ z,run G T 272 [.int .i64 (n : Int)] = some (DyA z (intD (n : Int))):=by
 rw [Zab G T J.J.ZpB,Zwx]
 obtain ⟨z1,r1⟩:=ZqL J (n:=n) (by omega)
 have hb : blen n≤6:=Zaf.2 (by rw [show (2 : Nat) ^ 6 = 64 from rfl]; omega)
 have ht : n = 0∨(-16777216≤(0 : Int) + tz n∧(0 : Int) + tz n≤16777216):=by
  by_cases h0 : n = 0
  ·exact Or.inl h0
  ·have:=Zxn h h0
   right; omega
 obtain ⟨z2,r2⟩:=Zcm J (n:=false) (z:=z1) (a:=n) (e:=0) (Zak (by omega)) ht (by omega)
 refine ⟨z2,?_⟩
 have w1 : (n : Int) % 18446744073709551616 = (n : Int):=by omega
 have w0 : ¬ (n : Int) < 0:=by omega
 generalize mkD false n 0 = d at *
 generalize dl n = l at *
 generalize (n : Int) = m at *
 simp only [DyA,A3] at *
 repeat' (first | simp only [seval,exC,ZjJ,w1,w0,r1,r2] | simp (disch:=omega) only [dxB])
theorem Zly (J : Al G T g) (hP : HasK g T) (F : Fm) {n : Nat} (h : n≤41) : run G T 382 [.int .u8 F.u,.int .u8 1,.int .i64 (n : Int)] = some (.tup [.int .u64 (fI F n : Int),.int .u8 ((rndW F 1 (intD (n : Int))).2 : Int),.int .i64 0]):=by
 rw [Zab G T hP.Zly]
 obtain ⟨z,d1⟩:=ZpB J h
 have nz : Nz (intD (n : Int)):=ZpZ _ _ _
 have r1:=Ziw J F (m:=1) (by decide) (z:=z) (d:=intD (n : Int)) (Zaw nz ((ZCT h).mono (by decide)))
 unfold fI
 generalize rndW F 1 (intD (n : Int)) = R at *
 generalize intD (n : Int) = d at *
 generalize (n : Int) = m at *
 simp only [DyA,A3] at *
 repeat' (first | simp only [seval,exC,Zge,d1,r1] | simp (disch:=omega) only [dxB])
theorem Zlg (J : Al G T g) (hP : HasK g T) (F : Fm) {n : Nat} (h : n≤41) : run G T 383 [.int .u8 F.u,.int .u8 1,.int .i64 (n : Int)] = some (.tup [.int .u64 (fI F n : Int),.int .u8 ((rndW F 1 (intD (n : Int))).2 : Int)]):=by
 rw [Zab G T hP.Zlg]
 obtain ⟨z,d1⟩:=Zoi J (n:=(n : Int)) (by omega) (by omega)
 have nz : Nz (intD (n : Int)):=ZpZ _ _ _
 have r1:=Zdw J F (m:=1) (by decide) (z:=z) (x:=intD (n : Int)) nz ((ZCT h).mono (by decide))
 unfold fI
 generalize rndW F 1 (intD (n : Int)) = R at *
 generalize intD (n : Int) = d at *
 generalize (n : Int) = m at *
 simp only [DyA,A3] at *
 repeat' (first | simp only [seval,exC,Zfl,d1,r1] | simp (disch:=omega) only [dxB])
def elD (F : Fm) (k : Nat) (a : Nat × Nat) : Nat × Nat:=((mulW2 F 1 (fI F k) a.1).1,(mulW2 F 1 (fI F k) a.2).1)
def drv (F : Fm) : Nat→List (Nat × Nat)→List (Nat × Nat)
 | _,[] => []
 | k,a :: l => elD F k a :: drv F (k + 1) l
theorem ZyI (F : Fm) : ∀ (k : Nat) (a b : List (Nat × Nat)),drv F k (a ++ b) = drv F k a ++ drv F (k + a.length) b
 | k,[],b => by simp [drv]
 | k,x :: a,b => by
  simp only [List.cons_append,drv,ZyI F (k + 1) a b,List.length_cons]
  rw [show k + 1 + a.length = k + (a.length + 1) by omega]
theorem ZyJ (F : Fm) : ∀ (k : Nat) (a : List (Nat × Nat)),(drv F k a).length = a.length
 | _,[] => rfl
 | k,x :: a => by simp only [drv,List.length_cons,ZyJ F (k + 1) a]
def dT (F : Fm) (l : List (Nat × Nat)) (i : Nat) : List (Nat × Nat):=drv F 1 ((l.take i).drop 1)
def dE (F : Fm) (l : List (Nat × Nat)) : List (Nat × Nat):=drv F 1 (l.drop 1)
theorem ZtK (F : Fm) (l : List (Nat × Nat)) : dT F l l.length = dE F l:=by unfold dT dE; rw [List.take_length]
theorem ZrO (F : Fm) {l : List (Nat × Nat)} {i : Nat} (h : i≤l.length) : (dT F l i).length = i - 1:=by
 unfold dT; rw [ZyJ,List.length_drop,List.length_take]; omega
theorem ZyE (F : Fm) {l : List (Nat × Nat)} {i : Nat} (h1 : 1≤i) (h : i < l.length) : dT F l (i + 1) = dT F l i ++ [elD F i (zc l i)]:=by
 unfold dT
 have e : l.take (i + 1) = l.take i ++ [zc l i]:=by rw [ZGo h,List.take_add_one,List.getElem?_eq_getElem h]; rfl
 rw [e,List.drop_append_of_le_length (by rw [List.length_take]; omega),ZyI]
 congr 1
 simp only [drv]
 rw [List.length_drop,List.length_take,show 1 + (min i l.length - 1) = i by omega]
theorem ZJs (F : Fm) (k : Nat) (a : Nat × Nat) : Zw F (elD F k a):=⟨ZsK F (by decide),ZsK F (by decide)⟩
theorem ZGT (F : Fm) : ∀ (k : Nat) (l : List (Nat × Nat)),Zws F (drv F k l)
 | _,[] => Zvd
 | k,a :: l => Zsj.2 ⟨ZJs F k a,ZGT F (k + 1) l⟩
def outV (i b : Nat) : AV:=if i≤1 then .nil else .own b 0 (i - 1) 2
theorem Zsn {hs : List Blk} {c b i : Nat} {x y : AV} {L : List (Nat × Nat)} (h1 : 1≤i) (hi : i≤1000) (hc : hs[c]? = some ⟨[x,y],false⟩) (hL : L.length = i - 1) (hb : 1 < i→hs[b]? = some ⟨zcells L,false⟩) :
  ∃ b2 hs2,appV ⟨hs,[]⟩ 2 16 (outV i b) (.own c 0 1 2) = some (outV (i + 1) b2,⟨hs2,[]⟩)∧b2 = hs.length∧hs2[b2]? = some ⟨zcells L ++ [x,y],false⟩∧(∀ j,j < hs.length→(1 < i→j≠b)→hs2[j]? = hs[j]?):=by
 have h2:=Znr hs [] c 0 2
 rw [hc] at h2
 have e1 : subB (some ⟨[x,y],false⟩) 0 2 = some [x,y]:=by simp [subB,sub]
 rw [e1] at h2
 by_cases q : i = 1
 ·subst q
  have hL0 : L = []:=List.length_eq_zero_iff.1 hL
  subst hL0
  refine ⟨hs.length,hs ++ [⟨[x,y],false⟩],?_,rfl,?_,fun j hj _ => ?_⟩
  ·simp only [appV,sliceCells,if_true,Nat.one_mul,h2,Option.map_some,outV]
   rfl
  ·rw [List.getElem?_append_right (Nat.le_refl _),Nat.sub_self]; rfl
  ·rw [List.getElem?_append_left hj]
 ·have hb:=hb (by omega)
  have hlt:=(List.getElem?_eq_some_iff.1 hb).1
  have zl:=Zbz L
  refine ⟨hs.length,hs.set b ⟨zcells L,true⟩ ++ [⟨zcells L ++ [x,y],false⟩],?_,rfl,?_,fun j hj hne => ?_⟩
  ·rw [show outV i b = .own b 0 (i - 1) 2 from if_neg (by omega),show outV (i + 1) hs.length = .own hs.length 0 (i + 1 - 1) 2 from if_neg (by omega)]
   simp only [appV,sliceCells,if_true,Nat.one_mul,h2,Option.map_some,hb]
   rw [if_pos (by refine ⟨trivial,trivial,rfl,by rw [zl]; omega,?_⟩; simp only [boundApp]; omega)]
   rw [List.drop_zero,List.take_of_length_le (by rw [zl]; omega),show i - 1 + 1 = i + 1 - 1 by omega]
  ·rw [List.getElem?_append_right (by simp),List.length_set,Nat.sub_self]; rfl
  ·rw [List.getElem?_append_left (by simpa using hj),List.getElem?_set,if_neg (fun e => hne (by omega) e.symm)]
theorem Zru (L : List (Nat × Nat)) (p : Nat × Nat) : zcells L ++ [.int .u64 (p.1 : Int),.int .u64 (p.2 : Int)] = zcells (L ++ [p]):=by rw [ZmR]; rfl
theorem ZEA (k off : Nat) (cs : List AV) : faddrA k (.iptr cs off) = some (.iptr cs (off + k)):=rfl
theorem Zvu (e : Env) (h : Heap) : evL G T Zek e h = kS G T (evL G T ZcH (keepE [0,1,5,6] e) h) Zek:=Zae G T rfl e h
set_option maxHeartbeats 8000000 in
theorem Zlo (J : Al G T g) (hP : HasK g T) (F : Fm) {l : List (Nat × Nat)} {z : Bool} (hl : l.length≤41) (hw : Zws F l) : ∀ (m i b : Nat) (bs : List Blk),1≤i→i + m = l.length→(1 < i→bs[b]? = some ⟨zcells (dT F l i),false⟩) →
  ∃ b' bs',evL G T Zek [(0,.int .u8 F.u),(1,ZL z l),(5,outV i b),(6,.int .i64 (i : Int))] ⟨bs,[]⟩ =
   some (.exit 0,[(0,.int .u8 F.u),(1,ZL z l),(5,outV l.length b'),(6,.int .i64 (l.length : Int)),(16,.bool false)],⟨bs',[]⟩)∧(1 < l.length→bs'[b']? = some ⟨zcells (dT F l l.length),false⟩)
 | 0,i,b,bs,h1,hi,hb => by
  have he : i = l.length:=by omega
  subst he
  have hn : ¬ (l.length : Int) < (l.length : Int):=by omega
  refine ⟨b,bs,?_,hb⟩
  rw [Zvu]
  generalize outV l.length b = o at *
  repeat' (first | simp only [seval,exC,ZcH,ZB,hn] | simp (disch:=omega) only [dxB])
 | m + 1,i,b,bs,h1,hi,hb => by
  have hil : i < l.length:=by omega
  have hlt : (i : Int) < (l.length : Int):=by omega
  have wa:=hw _ (Zpu hil)
  have t1 : ((i : Int)).toNat = i:=Int.toNat_natCast i
  have w1 : IntKind.i64.wrap ((i : Int) + 1) = ((i + 1 : Nat) : Int):=by rw [Zac (by omega)]; rfl
  have ia:=Zip (z:=z) (l:=l) (k:=.i64) (j:=(i : Int)) ⟨by omega,by omega⟩
  rw [t1] at ia
  have rd0:=fun mm => ZFv (G:=G) mm hil
  have rd0':=fun mm => ZIa (G:=G) mm hil
  have rd1:=fun mm => ZIb (G:=G) mm hil
  have f1:=Zlg J hP F (n:=i) (by omega)
  have u1:=ZfJ J F (md:=1) (by decide) (ZBs F i) wa.1
  have u2:=ZfJ J F (md:=1) (by decide) (ZBs F i) wa.2
  have eE : elD F i (zc l i) = ((mulW2 F 1 (fI F i) (zc l i).1).1,(mulW2 F 1 (fI F i) (zc l i).2).1):=rfl
  obtain ⟨b2,hs2,ap,_,hb2,_⟩:=Zsn (hs:=bs ++ [⟨[.int .u64 ((elD F i (zc l i)).1 : Int),.int .u64 ((elD F i (zc l i)).2 : Int)],false⟩]) (c:=bs.length) (b:=b) (i:=i) (L:=dT F l i) h1 (by omega) (by rw [List.getElem?_append_right (Nat.le_refl _),Nat.sub_self]; rfl) (ZrO F (by omega)) (fun q => by
   have:=hb q
   rw [List.getElem?_append_left (List.getElem?_eq_some_iff.1 this).1]; exact this)
  rw [Zru,← ZyE F h1 hil] at hb2
  rw [eE] at ap
  dsimp only at ap
  obtain ⟨b',bs',ih,hfin⟩:=Zlo J hP F (z:=z) hl hw m (i + 1) _ hs2 (by omega) (by omega) (fun _ => hb2)
  refine ⟨b',bs',?_,hfin⟩
  rw [← ih,Zvu]
  generalize outV i b = o at *
  generalize outV (i + 1) b2 = o2 at *
  generalize mulW2 F 1 (fI F i) (zc l i).1 = M1 at *
  generalize mulW2 F 1 (fI F i) (zc l i).2 = M2 at *
  generalize fI F i = w at *
  generalize (rndW F 1 (intD (i : Int))).2 = fl at *
  generalize zc l i = a at *
  clear hb hb2 hfin
  repeat' (first | simp only [seval,exC,ZcH,ZEA,hlt,ia,rd0,rd0',rd1,f1,u1,u2,Zmc,ap,ZB,w1] | simp (disch:=omega) only [dxB])
theorem ZJm (F : Fm) {l : List (Nat × Nat)} (h : 1 < l.length) : dE F l≠[]:=fun q => by
 have:=ZrO F (l:=l) (Nat.le_refl _)
 rw [ZtK,q] at this
 simp at this; omega
theorem ZyD (F : Fm) {l : List (Nat × Nat)} (h : l.length≤1) : dE F l = []:=by
 unfold dE
 rw [List.drop_eq_nil_of_le h]; rfl
theorem ZJb {l : List (Nat × Nat)} (h : l≠[]) : ZL true l = ZL false l:=by rw [ZDM h,ZDM h]
theorem ZIq (F : Fm) {l : List (Nat × Nat)} {bs : List Blk} {b : Nat} (h : 1 < l.length) (hb : bs[b]? = some ⟨zcells (dT F l l.length),false⟩) : snapG (Heap.mem ⟨bs,[]⟩) 3 b 0 (l.length - 1) 2 = some (ZL true (dE F l)):=by
 have:=sg_Z (d:=2) (ZoQ (bs:=bs) (f:=[]) (k:=b) (l:=dT F l l.length) (w:=[]) (by rw [List.append_nil]; exact hb))
 rw [ZrO F (Nat.le_refl _),ZtK] at this
 rw [ZJb (ZJm F h)]; exact this
set_option maxHeartbeats 8000000 in
theorem Znu (J : Al G T g) (hP : HasK g T) (F : Fm) {l : List (Nat × Nat)} {z : Bool} (hl : ¬ 41 < l.length) (hw : Zws F l) : run G T 353 [.int .u8 F.u,ZL z l] = some (ZL true (dE F l)):=by
 rw [Zab G T hP.Znu]
 by_cases h0 : l.length = 0
 ·have hn : (l.length : Int) = 0:=by omega
  rw [ZyD F (by omega),show ZL true [] = AV.nil from rfl]
  repeat' (first | simp only [seval,exC,ZdE,Zvu,ZcH,ZB,hn] | simp (disch:=omega) only [dxB])
 ·obtain ⟨b',bs',lp,hfin⟩:=Zlo J hP F (z:=z) (by omega) hw (l.length - 1) 1 0 [] (by omega) (by omega) (fun q => absurd q (by omega))
  rw [show outV 1 0 = AV.nil from rfl,show (((1 : Nat)) : Int) = 1 from rfl,show (⟨[],[]⟩ : Heap) = Heap.nil from rfl] at lp
  by_cases h1 : l.length = 1
  ·rw [ZyD F (by omega),show ZL true [] = AV.nil from rfl]
   rw [show outV l.length b' = AV.nil from if_pos (by omega)] at lp
   repeat' (first | simp only [seval,exC,ZdE,ZB,lp] | simp (disch:=omega) only [dxB])
  ·have sg:=ZIq F (by omega) (hfin (by omega))
   rw [show outV l.length b' = AV.own b' 0 (l.length - 1) 2 from if_neg (by omega)] at lp
   repeat' (first | simp only [seval,exC,ZdE,ZB,lp,sg] | simp (disch:=omega) only [dxB])
theorem ZsW (e : Env) (h : Heap) : evL G T Zck e h = kS G T (evL G T Zcj (keepE [0,7,26,27,28] e) h) Zck:=Zae G T rfl e h
theorem Zwy {k n i : Nat} (h : i < n) : iaddrV 2 (.own k 0 n 2) (.int .i64 (i : Int)) = some (.ptr k (i * 2)):=by
 rw [iaddrV,if_pos ⟨by omega,by omega,rfl⟩,Int.toNat_natCast,Nat.zero_add]
theorem ZzS {bs : List Blk} {f : List Nat} {k i : Nat} {l : List (Nat × Nat)} {w : List AV} (h : i < l.length) (hb : bs[k]? = some ⟨zcells l ++ w,false⟩) : rdAt G (Heap.mem ⟨bs,f⟩) 2 (.ptr k (i * 2)) = some [.int .u64 ((zc l i).1 : Int),.int .u64 ((zc l i).2 : Int)]:=by
 rw [rdAt,Znr,hb,Zrp,sub,if_pos (by rw [List.length_append,Zbz]; omega),ZvQ h]
theorem ZEG (k : IntKind) (n : Int) (bs : List Nat) : fz1 (.int k n) bs = []:=rfl
theorem ZEF (b : Bool) (bs : List Nat) : fz1 (.bool b) bs = []:=rfl
theorem ZuH : ∀ (vs : List AV) (cs : List AV) (off : Nat),(setAt cs off vs).length = cs.length
 | [],cs,off => rfl
 | v :: vs,cs,off => by rw [setAt,ZuH vs,List.length_set]
def Fm.wlo : Fm→Nat
 | .s => 107
 | .d => 823
def Fm.whi : Fm→Nat
 | .s => 147
 | .d => 1223
def inW (F : Fm) (w : Nat) : Prop:=F.wlo≤F.ex w∧F.ex w≤F.whi
instance (F : Fm) (w : Nat) : Decidable (inW F w):=inferInstanceAs (Decidable (_∧_))
end Go.Cv
namespace Go.Cv
variable {G : Nat→Option (List AV)} {T : Tbl} {g : Nat}
section
variable (F : CallF) (d : Option Nat) (os : List IOper) (e : Env) (h : Heap)
end
section
variable (hL : HasL g T)
 include hL
end
end Go.Cv
namespace Go.Cv
variable {G : Nat→Option (List AV)} {T : Tbl} {g : Nat}
theorem ZFu {a b : Dy} (F : Fm) (h0 : a.m≠0) (h1 : b.m≠0) : F.fr + 2≤blen (a.m * 2 ^ quoN 64 a.m b.m / b.m):=by
 have hF:=ZbH F
 have:=ZmD (k:=64) h0 h1
 omega
theorem ZKo (F : Fm) (neg : Bool) {Q : Nat} (s : Bool) (E : Int) (h : F.fr + 2≤blen Q) : (sW F 1 neg Q s E).1 < 2 * F.sg:=by
 have hi:=ZgS F
 obtain ⟨K,kk,u,_,_,_,_,_,h1 | h1⟩:=ZzY F 1 neg s E h
 ·rw [h1.2]
  show F.inf neg < _
  rw [ZtZ]; unfold Fm.sgn; split <;> omega
 ·rw [h1.2]; unfold Fm.sgn; split <;> omega
theorem ZvI (F : Fm) (n : Bool) : F.sgn n < 2 * F.sg:=(ZvH F n).1
theorem ZAp (F : Fm) {md : Int} (hm : 1≤md∧md≤5) {a b : Nat} : (subW F md a b).1 < 2 * F.sg:=by
 unfold subW addP
 split
 ·exact ZnW F
 ·split
  ·exact ZnW F
  ·split
   ·exact ZlE F _
   ·split
    ·exact ZlE F _
    ·split
     ·exact ZvI F _
     ·unfold sumW
      split
      ·exact ZvI F _
      ·exact Zvz F hm _
end Go.Cv
namespace Go.Cv
section
open Classical
noncomputable def subZ (F : Fm) (x t : Nat × Nat) : Nat × Nat:=((subW F 1 x.1 t.1).1,(subW F 1 x.2 t.2).1)
noncomputable def haZ (F : Fm) (s : Nat × Nat) (j : Nat) : Nat × Nat:=((scaW F 1 s.1 (-(j : Int))).1,(scaW F 1 s.2 (-(j : Int))).1)
noncomputable def quZ (F : Fm) (v d : Nat × Nat) : Nat × Nat:=((divZ F 1 v.1 v.2 d.1 d.2).1.1,(divZ F 1 v.1 v.2 d.1 d.2).2.1)
noncomputable def yJ (F : Fm) (x s : Nat × Nat) (j : Nat) : Nat × Nat:=subZ F x (haZ F s j)
def lsZ (F : Fm) (a b : Nat × Nat) : Prop:=cmpZ F a.1 a.2 b.1 b.2 = 1
def goodY (F : Fm) (l : List (Nat × Nat)) (v y : Nat × Nat) : Prop:=Zf F y∧Zf F (evE F y l).1∧lsZ F (evE F y l).1 v
noncomputable def tryP (F : Fm) (l : List (Nat × Nat)) (x s v : Nat × Nat) : Nat→Nat→Option (Nat × Nat)
 | 0,_ => none
 | m + 1,j => if goodY F l v (yJ F x s j) then some (yJ F x s j) else tryP F l x s v m (j + 1)
noncomputable def shP (F : Fm) (D : List (Nat × Nat)) (x v : Nat × Nat) : Option (Nat × Nat) :=
 if (Zfs F D∧zcl (F.cls (evE F x D).1.1) (F.cls (evE F x D).1.2) = 2)∧Zf F (quZ F v (evE F x D).1) then some (quZ F v (evE F x D).1) else none
noncomputable def stP (F : Fm) (l D : List (Nat × Nat)) (x v : Nat × Nat) : (Nat × Nat) × Nat :=
 match shP F D x v with
 | none => (x,2)
 | some s => match tryP F l x s v 7 0 with
  | some y => (y,0)
  | none => (x,3)
def hlP (F : Fm) (V : (Nat × Nat) × Nat) : Prop:=Zf F V.1∧¬ lsZ F (V.2,0) V.1
noncomputable def onP (F : Fm) (l D : List (Nat × Nat)) (x : Nat × Nat) (last : Bool) : (Nat × Nat) × Nat :=
 if ¬ Zf F (evE F x l).1 then (x,2) else if ¬ lsZ F ((evE F x l).2,0) (evE F x l).1 then (x,1) else if last = true then (x,4) else stP F l D x (evE F x l).1
noncomputable def paP (F : Fm) (l D : List (Nat × Nat)) : Nat→Nat × Nat→List (Nat × Nat) × Nat
 | 0,x => ([x],(onP F l D x true).2)
 | m + 1,x => if (onP F l D x false).2 = 0 then (x :: (paP F l D m (onP F l D x false).1).1,(paP F l D m (onP F l D x false).1).2) else ([x],(onP F l D x false).2)
end
section
variable {F : Fm} {l D : List (Nat × Nat)}
theorem yJ_w (x s : Nat × Nat) (j : Nat) : Zw F (yJ F x s j):=⟨ZAp F (by decide),ZAp F (by decide)⟩
theorem ZAx {x s v y : Nat × Nat} : ∀ (m j : Nat),tryP F l x s v m j = some y→Zw F y∧goodY F l v y
 | 0,j,h => by cases h
 | m + 1,j,h => by
  unfold tryP at h
  split at h
  ·next q => cases h; exact ⟨yJ_w x s j,q⟩
  ·exact ZAx m (j + 1) h
theorem ZwL {x : Nat × Nat} {b : Bool} (h : (onP F l D x b).2 = 0) : Zw F (onP F l D x b).1∧Zf F (onP F l D x b).1∧Zf F (evE F (onP F l D x b).1 l).1∧lsZ F (evE F (onP F l D x b).1 l).1 (evE F x l).1∧b = false∧¬ hlP F (evE F x l):=by
 unfold onP at h ⊢
 split at h
 ·cases h
 ·next h1 =>
  rw [if_neg h1]
  split at h
  ·cases h
  ·next h2 =>
   rw [if_neg h2]
   split at h
   ·cases h
   ·next h3 =>
    rw [if_neg h3]
    unfold stP at h ⊢
    cases hs : shP F D x (evE F x l).1 with
    | none => rw [hs] at h; cases h
    | some s =>
     rw [hs] at h
     simp only at h ⊢
     cases ht : tryP F l x s (evE F x l).1 7 0 with
     | none => rw [ht] at h; cases h
     | some y =>
      simp only
      obtain ⟨q1,q2,q3,q4⟩:=ZAx 7 0 ht
      exact ⟨q1,q2,q3,q4,by simpa using h3,fun q => q.2 (Classical.not_not.1 h2)⟩
theorem ZFn (x : Nat × Nat) (b : Bool) : (onP F l D x b).2≤4∧((onP F l D x b).2 = 1↔hlP F (evE F x l))∧((onP F l D x b).2 = 4↔b = true∧Zf F (evE F x l).1∧¬ hlP F (evE F x l))∧(b = true→(onP F l D x b).2≠0) ∧
  ((onP F l D x true).2≠4→onP F l D x b = onP F l D x true):=by
 unfold onP hlP
 by_cases h1 : Zf F (evE F x l).1
 ·by_cases h2 : lsZ F ((evE F x l).2,0) (evE F x l).1
  ·cases b
   ·have hs : (stP F l D x (evE F x l).1).2≤3∧(stP F l D x (evE F x l).1).2≠1:=by
     unfold stP
     split
     ·simp
     ·split <;> simp
    simp only [h1,h2,not_true_eq_false,if_false,Bool.false_eq_true,if_true]
    refine ⟨by omega,by simp [hs.2],?_,by simp,by simp⟩
    constructor
    ·intro q; omega
    ·rintro ⟨q,_⟩; cases q
   ·simp [h1,h2]
  ·simp [h1,h2]
 ·simp [h1]
theorem ZsU : ∀ (m : Nat) (x : Nat × Nat),(paP F l D m x).1≠[]∧(paP F l D m x).1.length≤m + 1∧zc (paP F l D m x).1 0 = x
 | 0,x => ⟨by simp [paP],by simp [paP],rfl⟩
 | m + 1,x => by
  unfold paP
  split
  ·have:=(ZsU m (onP F l D x false).1).2.1
   exact ⟨by simp,by simp; omega,rfl⟩
  ·exact ⟨by simp,by simp,rfl⟩
theorem ZDd (F : Fm) (p : Nat × Nat) (l : List (Nat × Nat)) : F.cls (evE F p l).2≠5:=by
 have f0 : F.cls 0 = 1:=by cases F <;> decide
 unfold evE
 split
 ·simp only; rw [f0]; decide
 ·simp only
  unfold bdE
  split
  ·next h => have:=Zbu.1 h.2.2; omega
  ·rw [Zqf]; decide
theorem ZHb {V : (Nat × Nat) × Nat} (hf : Zf F V.1) (hb : F.cls V.2≠5) : (cmpZ F V.1.1 V.1.2 V.2 0 = 1∨cmpZ F V.1.1 V.1.2 V.2 0 = 2)↔hlP F V:=by
 have f0 : F.cls 0 = 1:=by cases F <;> decide
 have h4 : cmpZ F V.1.1 V.1.2 V.2 0≠4:=by
  have h1:=(Zer F).1 hf
  have h2 : zcl (F.cls V.2) (F.cls 0)≠4:=by
   rw [f0]; unfold zcl
   have:=ZbS F V.2
   split
   ·decide
   ·split
    ·next q => omega
    ·split <;> decide
  have hq:=ZpA (sqD F V.1.1 V.1.2) (sqD F V.2 0)
  unfold cmpZ
  generalize zcl (F.cls V.1.1) (F.cls V.1.2) = a at *
  generalize zcl (F.cls V.2) (F.cls 0) = b at *
  rw [if_neg (by omega)]
  split
  ·decide
  ·split
   ·decide
   ·split
    ·decide
    ·omega
 have hg:=goes F (md:=1) (by decide) (by decide) V.1.1 V.1.2 V.2 0
 unfold hlP lsZ
 simp only
 constructor
 ·intro h; exact ⟨hf,by omega⟩
 ·rintro ⟨_,h⟩; omega
theorem ZHX {v d : Nat × Nat} (hv : Zf F v) (hw : Zw F d) (hd : zcl (F.cls d.1) (F.cls d.2) = 2) : Zw F (quZ F v d):=by
 have h1:=(Zer F).1 hv
 have hs : sdS F v.1 v.2 d.1 d.2 = false:=by unfold sdS; rw [decide_eq_true ⟨h1,hd⟩]; rfl
 have hm : (sqD F d.1 d.2).m≠0:=ZFW F hw.1 hw.2 hd
 have key : ∀ x y : Dy × Bool,(tw F 1 x y (sqD F d.1 d.2)).1 < 2 * F.sg:=fun x y => by
  unfold tw ptQ
  split
  ·exact ZvI F _
  ·next h => unfold quoW; exact ZKo F _ _ _ (ZFu F h hm)
 unfold quZ divZ
 rw [hs]
 exact ⟨key _ _,key _ _⟩
end
end Go.Cv
