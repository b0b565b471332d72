/-
 A part of the proof of the statements of this seat (texts that the law's own text leans on): no condition.
-/
import Derived.Test.YtddmoldiopnifaaGreatDoorM14
import Derived.Test.YtddmoldiopnifaaGreatDoorM7
set_option linter.unusedVariables false
set_option linter.unusedSimpArgs false
namespace Go.Cv
variable {G : Nat→Option (List AV)} {T : Tbl} {g : Nat}
theorem ZyR (F : Fm) {a b : Nat} {L : Int} (la : LoE (F.vl a) L) (lb : LoE (F.vl b) L) (s : Bool) : LoE (tm F a b s).1 (L + L)∧iv (tm F a b s).1 (L + L) = if s then -(iv (F.vl a) L * iv (F.vl b) L) else iv (F.vl a) L * iv (F.vl b) L:=by
 obtain ⟨m1,m2⟩:=Zbb la lb
 unfold tm
 cases s
 ·exact ⟨m2,m1⟩
 ·exact ⟨Zms m2,by simp only [if_true]; rw [Zqa,m1]⟩
theorem ZDU (F : Fm) {md : Int} (hm : 1≤md∧md≤5) (X : Dy) (s : Bool) {b : Dy} (hb : b.m≠0) : Wd F (ptQ F md X s b).1:=(Zqq F hm (X:=X) hb s s s).1.2.1
theorem Zte (F : Fm) {md : Int} (hm : 1≤md∧md≤5) {X : Dy} {s : Bool} (nX : Nz X) (h : (ptQ F md X s oneD).2 = 0) : F.fin (ptQ F md X s oneD).1∧F.vl (ptQ F md X s oneD).1 = X:=by
 unfold ptQ at h ⊢
 by_cases h0 : X.m = 0
 ·simp only [if_pos h0]
  obtain ⟨_,_,q3,q4⟩:=ZaH F s
  exact ⟨Zat.2 (Or.inl q3),by rw [q4,nX.1 h0]⟩
 ·rw [if_neg h0] at h
  simp only [if_neg h0]
  obtain ⟨f1,_,f3⟩:=ZwR F nX h0 (show oneD.m≠0 by decide) h
  exact ⟨f1,by rw [Zyt (ZbX F _)] at f3; exact f3.symm⟩
theorem Ztd (F : Fm) {md : Int} (hm : 1≤md∧md≤5) {w : Nat} (hw : w < 2 * F.sg) (hf : F.fin w) {X b : Dy} (nX : Nz X) (nb : Nz b) (hb : b.m≠0) {K L : Int} (lX : LoE X (K + L)) (ld : LoE (F.vl w) K) (lb : LoE b L) (h : iv X (K + L) = iv (F.vl w) K * iv b L) (s : Bool) : (ptQ F md X s b).2 = 0∧Near F (ptQ F md X s b).1 w:=by
 unfold ptQ
 by_cases h0 : (F.vl w).m = 0
 ·have hX : X.m = 0:=ZpZ nX lX (by rw [h,Zah h0,Int.zero_mul])
  simp only [if_pos hX]
  exact ⟨trivial,Or.inr ⟨(ZaH F s).2.2.1,(Zct hw hf).2 h0⟩⟩
 ·have hX : X.m≠0:=fun q => by
   rw [Zah q] at h
   rcases Int.mul_eq_zero.1 h.symm with k | k
   ·exact h0 (ZpZ (ZbX F w) ld k)
   ·exact hb (ZpZ nb lb k)
  simp only [if_neg hX]
  rw [Zqv F md nX (ZbX F w) nb h0 hb lX ld lb h,ZyX F md hw hf h0]
  exact ⟨rfl,Or.inl rfl⟩
theorem back (F : Fm) {md : Int} (hm : 1≤md∧md≤5) {a b c d : Nat} (ha : a < 2 * F.sg) (hb : b < 2 * F.sg) (hc : c < 2 * F.sg) (hd : d < 2 * F.sg) (fa : F.fin a) (fb : F.fin b) (hz : zcl (F.cls c) (F.cls d) = 2) (e1 : (mulR F md a b c d).1.2 = 0) (e2 : (mulR F md a b c d).2.2 = 0) :
  (F.fin (mulR F md a b c d).1.1∧F.fin (mulR F md a b c d).2.1) ∧
  ((divR F md (mulR F md a b c d).1.1 (mulR F md a b c d).2.1 c d).1.2 = 0∧Near F (divR F md (mulR F md a b c d).1.1 (mulR F md a b c d).2.1 c d).1.1 a) ∧
  ((divR F md (mulR F md a b c d).1.1 (mulR F md a b c d).2.1 c d).2.2 = 0∧Near F (divR F md (mulR F md a b c d).1.1 (mulR F md a b c d).2.1 c d).2.1 b):=by
 obtain ⟨fc,fd⟩:=(ZjH F (a:=c) (b:=d)).2 (by omega)
 have hq:=ZFn F hc hd hz
 obtain ⟨p1,v1⟩:=Zte F hm (ZcT (ZlS F a c false).2 (ZlS F b d true).2) e1
 obtain ⟨p2,v2⟩:=Zte F hm (ZcT (ZlS F a d false).2 (ZlS F b c false).2) e2
 have la:=ZaB fa
 have lb:=ZaB fb
 have lc:=ZaB fc
 have ld:=ZaB fd
 generalize F.low = L at *
 obtain ⟨x1,y1⟩:=ZyR F la lc false
 obtain ⟨x2,y2⟩:=ZyR F lb ld true
 obtain ⟨x3,y3⟩:=ZyR F la ld false
 obtain ⟨x4,y4⟩:=ZyR F lb lc false
 obtain ⟨i1,l1⟩:=Zbx x1 x2
 obtain ⟨i2,l2⟩:=Zbx x3 x4
 rw [y1,y2] at i1
 rw [y3,y4] at i2
 simp only [Bool.false_eq_true,if_false,if_true] at i1 i2
 have sq:=Zut F lc ld
 have lsq : LoE (sqD F c d) (L + L):=(Zbx (Zbb lc lc).2 (Zbb ld ld).2).2
 rw [show 2 * L = L + L by omega] at sq
 have P : ∀ {p w : Nat} {X : Dy} {s : Bool},F.vl p = X→LoE X (L + L)→LoE (F.vl w) L→LoE (tm F p w s).1 (L + (L + L))∧iv (tm F p w s).1 (L + (L + L)) = if s then -(iv X (L + L) * iv (F.vl w) L) else iv X (L + L) * iv (F.vl w) L:=fun {p w X s} hp lX lw => by
  obtain ⟨m1,m2⟩:=Zbb lX lw
  rw [show L + L + L = L + (L + L) by omega] at m1 m2
  unfold tm
  rw [hp]
  cases s
  ·exact ⟨m2,m1⟩
  ·exact ⟨Zms m2,by simp only [if_true]; rw [Zqa,m1]⟩
 refine ⟨⟨p1,p2⟩,?_,?_⟩
 ·obtain ⟨q1,r1⟩:=P (s:=false) v1 l1 lc
  obtain ⟨q2,r2⟩:=P (s:=false) v2 l2 ld
  obtain ⟨i3,l3⟩:=Zbx q1 q2
  refine Ztd F hm ha fa (ZcT (ZlS F _ _ _).2 (ZlS F _ _ _).2) (ZpE F c d) hq l3 la lsq ?_ _
  rw [i3,r1,r2,i1,i2,sq]
  simp only [Bool.false_eq_true,if_false]
  generalize iv (F.vl a) L = x
  generalize iv (F.vl b) L = y
  generalize iv (F.vl c) L = z
  generalize iv (F.vl d) L = w
  grind
 ·obtain ⟨q1,r1⟩:=P (s:=false) v2 l2 lc
  obtain ⟨q2,r2⟩:=P (s:=true) v1 l1 ld
  obtain ⟨i3,l3⟩:=Zbx q1 q2
  refine Ztd F hm hb fb (ZcT (ZlS F _ _ _).2 (ZlS F _ _ _).2) (ZpE F c d) hq l3 lb lsq ?_ _
  rw [i3,r1,r2,i1,i2,sq]
  simp only [Bool.false_eq_true,if_false,if_true]
  generalize iv (F.vl a) L = x
  generalize iv (F.vl b) L = y
  generalize iv (F.vl c) L = z
  generalize iv (F.vl d) L = w
  grind
def intD (n : Int) : Dy:=mkD (decide (n < 0)) n.natAbs 0
theorem ZyY {n : Int} (h : -9223372036854775808≤n) (h0 : n < 0) : (0 - n % 18446744073709551616) % 18446744073709551616 = (n.natAbs : Int):=by omega
theorem ZyZ {n : Int} (h : n≤9223372036854775807) (h0 : ¬ n < 0) : n % 18446744073709551616 = (n.natAbs : Int):=by omega
theorem ZkP (J : Al G T g) {n : Int} (h1 : -9223372036854775808≤n) (h2 : n≤9223372036854775807) : ∃ z,run G T 20 [.int .i64 n] = some (DyA z (intD n)):=by
 apply exP
 rw [Zac G T J.C.ZkP]
 obtain ⟨z1,r1⟩:=Zjz J (n:=n.natAbs) (by omega)
 have hl : (dl n.natAbs).length < 17179869184:=by
  have h1:=Zaa n.natAbs
  have h2 : blen n.natAbs≤64:=Zaf.2 (by rw [show (2 : Nat) ^ 64 = 18446744073709551616 from rfl]; omega)
  omega
 obtain ⟨z2,r2⟩:=Zbf J (n:=decide (n < 0)) (z:=z1) (a:=n.natAbs) (e:=0) hl (by omega)
 unfold intD
 generalize mkD (decide (n < 0)) n.natAbs 0 = d at *
 by_cases h : n < 0
 ·have w1:=ZyY h1 h
  rw [decide_eq_true h] at r2
  generalize dl n.natAbs = l at *
  generalize (n.natAbs : Int) = m at *
  simp only [DyA,A3] at *
  repeat' (first|simp (maxSteps:=9^7) only [seval,exC,ZfL,w1,h,r1,r2]|simp (maxSteps:=9^7) (disch:=first|with_reducible assumption|omega) only [dxB]|(simp only [kdB];split)|(simp only [kvB];split))
  all_goals exact ⟨_,rfl,z2,rfl⟩
 ·have w1:=ZyZ h2 h
  rw [decide_eq_false h] at r2
  generalize dl n.natAbs = l at *
  generalize (n.natAbs : Int) = m at *
  simp only [DyA,A3] at *
  repeat' (first|simp (maxSteps:=9^7) only [seval,exC,ZfL,w1,h,r1,r2]|simp (maxSteps:=9^7) (disch:=first|with_reducible assumption|omega) only [dxB]|(simp only [kdB];split)|(simp only [kvB];split))
  all_goals exact ⟨_,rfl,z2,rfl⟩
end Go.Cv
namespace Go.Cv
variable {G : Nat→Option (List AV)} {T : Tbl} {g : Nat}
section
variable (b : Nat) (k : IntKind)
end
end Go.Cv
namespace Go.Cv
def scaW (F : Fm) (md : Int) (w : Nat) (n : Int) : Nat × Nat:=if F.cls w = 5 then (F.nan,0) else if F.cls w = 4∨F.cls w = 1 then (w,0) else rndW F md (shD (F.vl w) n)
def uA (F : Fm) (a b : Nat) : Nat:=(addW F 4 a b).1
def uM (F : Fm) (a b : Nat) : Nat:=(mulW2 F 4 a b).1
noncomputable def uN (F : Fm) (p : Nat × Nat) : Nat:=(absZ F 4 p.1 p.2).1
def uS (F : Fm) (w : Nat) : Nat:=(scaW F 4 w (-(F.fr + 1 : Nat))).1
def zM (F : Fm) (y z : Nat × Nat) : Nat × Nat:=((mulZ F 1 y.1 y.2 z.1 z.2).1.1,(mulZ F 1 y.1 y.2 z.1 z.2).2.1)
def zP (F : Fm) (p a : Nat × Nat) : Nat × Nat:=((addW F 1 p.1 a.1).1,(addW F 1 p.2 a.2).1)
noncomputable def stE (F : Fm) (z : Nat × Nat) (s : (Nat × Nat) × Nat) (a : Nat × Nat) : (Nat × Nat) × Nat :=
 (zP F (zM F s.1 z) a,uA F (uM F s.2 (uN F z)) (uA F (uS F (uA F (uN F (zM F s.1 z)) (uN F (zP F (zM F s.1 z) a)))) 2))
noncomputable def pE (F : Fm) (z : Nat × Nat) : List (Nat × Nat)→(Nat × Nat) × Nat
 | [] => ((0,0),0)
 | [a] => (a,0)
 | a :: b :: l => stE F z (pE F z (b :: l)) a
noncomputable def bdE (F : Fm) (s : (Nat × Nat) × Nat) : Nat:=if F.fin s.1.1∧F.fin s.1.2∧F.fin s.2 then s.2 else F.inf false
def Zw (F : Fm) (p : Nat × Nat) : Prop:=p.1 < 2 * F.sg∧p.2 < 2 * F.sg
def Zf (F : Fm) (p : Nat × Nat) : Prop:=F.fin p.1∧F.fin p.2
theorem ZjQ (F : Fm) {md : Int} (hm : 1≤md∧md≤5) {a b : Nat} : (addW F md a b).1 < 2 * F.sg:=by
 unfold addW addP
 repeat' split
 ·exact ZmZ F
 ·exact ZmZ F
 ·exact ZlN F _
 ·exact ZlN F _
 ·exact (ZaH F _).1
 ·exact ZrK F hm _
theorem Zwz (F : Fm) {md : Int} (hm : 1≤md∧md≤5) {a b : Nat} : (mulW2 F md a b).1 < 2 * F.sg:=by
 unfold mulW2 mulP
 repeat' split
 ·exact ZmZ F
 ·exact ZmZ F
 ·exact ZlN F _
 ·exact (ZaH F _).1
 ·exact ZrK F hm _
theorem ZBQ (F : Fm) {md : Int} (hm : 1≤md∧md≤5) (d : Dy) : (rndW F md d).1 < 2 * F.sg:=by
 have z0 : (0 : Nat) < 2 * F.sg:=by cases F <;> decide
 by_cases h : d.m = 0
 ·unfold rndW; rw [if_pos h]; exact z0
 ·have:=ZrK F hm d
  unfold sumW at this; rw [if_neg h] at this; exact this
theorem Zxh (F : Fm) {md : Int} (hm : 1≤md∧md≤5) {w : Nat} (hw : w < 2 * F.sg) (n : Int) : (scaW F md w n).1 < 2 * F.sg:=by
 unfold scaW
 repeat' split
 ·exact ZmZ F
 ·exact hw
 ·exact ZBQ F hm _
theorem Zpy (F : Fm) (p : Nat × Nat) : uN F p < 2 * F.sg:=by
 unfold uN absZ toldW
 repeat' split
 ·exact ZlN F _
 ·exact ZmZ F
 ·exact (ZEa F (Zod F _ _)).1
theorem zM_w (F : Fm) (y z : Nat × Nat) : Zw F (zM F y z):=by
 unfold zM mulZ
 split
 ·exact ZEe F 1 _ _ _ _
 ·exact ⟨(ZDU F (by decide) _ _ (show oneD.m≠0 by decide)).1,(ZDU F (by decide) _ _ (show oneD.m≠0 by decide)).1⟩
theorem zP_w (F : Fm) (p a : Nat × Nat) : Zw F (zP F p a):=⟨ZjQ F (by decide),ZjQ F (by decide)⟩
theorem pE_w (F : Fm) (z : Nat × Nat) : ∀ (l : List (Nat × Nat)),(∀ a ∈ l,Zw F a)→Zw F (pE F z l).1∧(pE F z l).2 < 2 * F.sg
 | [],_ => by
  have z0 : (0 : Nat) < 2 * F.sg:=by cases F <;> decide
  exact ⟨⟨z0,z0⟩,z0⟩
 | [a],h => by
  have z0 : (0 : Nat) < 2 * F.sg:=by cases F <;> decide
  exact ⟨h a (List.mem_cons_self ..),z0⟩
 | a :: b :: l,h => ⟨zP_w F _ _,ZjQ F (by decide)⟩
theorem Zls (F : Fm) : ¬ F.fin F.nan:=by cases F <;> decide
theorem Zlq (F : Fm) (n : Bool) : ¬ F.fin (F.inf n):=by cases F <;> cases n <;> decide
theorem Zjc (F : Fm) (md : Int) {a b : Nat} (h : F.fin (addW F md a b).1) : F.fin a∧F.fin b:=by
 have ra:=ZcE F a
 have rb:=ZcE F b
 rw [Zat,Zat]
 unfold addW addP at h
 split at h
 ·exact absurd h (Zls F)
 ·split at h
  ·exact absurd h (Zls F)
  ·split at h
   ·exact absurd h (Zlq F _)
   ·split at h
    ·exact absurd h (Zlq F _)
    ·omega
theorem ZoR (F : Fm) (md : Int) {a b : Nat} (h : F.fin (mulW2 F md a b).1) : F.fin a∧F.fin b:=by
 have ra:=ZcE F a
 have rb:=ZcE F b
 rw [Zat,Zat]
 unfold mulW2 mulP at h
 split at h
 ·exact absurd h (Zls F)
 ·split at h
  ·exact absurd h (Zls F)
  ·split at h
   ·exact absurd h (Zlq F _)
   ·omega
theorem Zpk (F : Fm) (md : Int) {w : Nat} {n : Int} (h : F.fin (scaW F md w n).1) : F.fin w:=by
 have rw':=ZcE F w
 unfold scaW at h
 split at h
 ·exact absurd h (Zls F)
 ·split at h
  ·exact h
  ·rw [Zat]; omega
theorem ZtX (F : Fm) {p : Nat × Nat} (h : F.fin (uN F p)) : Zf F p:=by
 have hz:=ZnD F p.1 p.2
 unfold uN absZ toldW at h
 split at h
 ·exact absurd h (Zlq F _)
 ·split at h
  ·exact absurd h (Zls F)
  ·exact (ZjH F).2 (by omega)
theorem ZxC (F : Fm) : (2 : Nat) < 2 * F.sg∧F.fin 2∧F.vl 2 = ⟨false,1,F.low + 1⟩:=by
 have m:=Zjv (n:=false) (m:=1) (e:=F.low + 1) (by decide) 1
 rw [show (1 * 2 ^ 1 : Nat) = 2 from rfl,show F.low + 1 - ((1 : Nat) : Int) = F.low by omega] at m
 have f : F.fin 2:=by cases F <;> decide
 refine ⟨by cases F <;> decide,f,?_⟩
 rw [ZbA f,← m]
 cases F <;> rfl
theorem Zps (F : Fm) {z : Nat × Nat} {s : (Nat × Nat) × Nat} {a : Nat × Nat} (h : F.fin (stE F z s a).2) :
  F.fin (uM F s.2 (uN F z))∧F.fin s.2∧F.fin (uN F z)∧F.fin (uA F (uS F (uA F (uN F (zM F s.1 z)) (uN F (zP F (zM F s.1 z) a)))) 2)∧F.fin (uS F (uA F (uN F (zM F s.1 z)) (uN F (zP F (zM F s.1 z) a))))∧F.fin (uA F (uN F (zM F s.1 z)) (uN F (zP F (zM F s.1 z) a)))∧F.fin (uN F (zM F s.1 z))∧F.fin (uN F (zP F (zM F s.1 z) a))∧Zf F (zM F s.1 z)∧Zf F (zP F (zM F s.1 z) a):=by
 obtain ⟨h1,h2⟩:=Zjc F 4 (show F.fin (addW F 4 _ _).1 from h)
 obtain ⟨h3,h4⟩:=ZoR F 4 (show F.fin (mulW2 F 4 _ _).1 from h1)
 obtain ⟨h5,_⟩:=Zjc F 4 (show F.fin (addW F 4 _ _).1 from h2)
 have h6:=Zpk F 4 (show F.fin (scaW F 4 _ _).1 from h5)
 obtain ⟨h7,h8⟩:=Zjc F 4 (show F.fin (addW F 4 _ _).1 from h6)
 exact ⟨h1,h3,h4,h2,h5,h6,h7,h8,ZtX F h7,ZtX F h8⟩
theorem ZCD {d : Dy} (h : Nz d) (n : Int) : Nz (shD d n):=by
 unfold shD
 by_cases h0 : d.m = 0
 ·rw [if_pos h0]; exact h
 ·rw [if_neg h0]; exact ⟨fun q => absurd q h0,fun _ => h.2 h0⟩
def zcells : List (Nat × Nat)→List AV
 | [] => []
 | p :: l => .int .u64 (p.1 : Int) :: .int .u64 (p.2 : Int) :: zcells l
def ZL (z : Bool) (l : List (Nat × Nat)) : AV:=if z = true∧l = [] then .nil else .imm l.length (zcells l)
theorem Zoh : ∀ (l : List (Nat × Nat)) (j : Nat),(zcells l)[j]? = (l[j / 2]?).map fun p => AV.int .u64 ((if j % 2 = 0 then p.1 else p.2 : Nat) : Int)
 | [],j => by simp [zcells]
 | p :: l,0 => by simp [zcells]
 | p :: l,1 => by simp [zcells]
 | p :: l,j + 2 => by
  rw [zcells,List.getElem?_cons_succ,List.getElem?_cons_succ,Zoh l j,show (j + 2) / 2 = j / 2 + 1 by omega,List.getElem?_cons_succ,show (j + 2) % 2 = j % 2 by omega]
end Go.Cv
namespace Go.Cv
theorem ZnI {x : Dy} {L : Int} (hz : Nz x) (hl : LoE x L) (h : 0≤iv x L) : x.n = false:=by
 by_cases h0 : x.m = 0
 ·rw [hz.1 h0]
 ·cases hn : x.n with
  | false => rfl
  | true =>
   exfalso
   unfold iv at h
   rw [hn] at h
   have:=Nat.mul_pos (Nat.pos_of_ne_zero h0) (Nat.two_pow_pos (x.e - L).toNat)
   simp only [if_true] at h
   omega
theorem Zbo {x : Dy} (L : Int) (h : x.n = false) : 0≤iv x L:=by unfold iv; rw [h]; simp only [Bool.false_eq_true,if_false,Int.one_mul]; exact Int.natCast_nonneg _
theorem LoEv {F : Fm} {w : Nat} (hf : F.fin w) {L : Int} (h : L≤-2000) : LoE (F.vl w) L:=(ZaB hf).mono (by have:=Zak F; omega)
theorem ZiG {d : Dy} {K : Int} (h : LoE d K) (h0 : d.m≠0) : K≤d.e:=h.resolve_left h0
theorem sumU (F : Fm) {d : Dy} (nz : Nz d) {K : Int} (hK : LoE d K) (hn : d.n = false) (hf : F.fin (sumW F 4 d).1) : (F.vl (sumW F 4 d).1).n = false∧∀ L,L≤F.low→L≤K - 60→iv d L≤iv (F.vl (sumW F 4 d).1) L:=by
 unfold sumW at hf ⊢
 by_cases h0 : d.m = 0
 ·rw [if_pos h0,(ZaH F _).2.2.2]
  exact ⟨rfl,fun L _ _ => by rw [Zah h0,Zah rfl]; decide⟩
 ·rw [if_neg h0] at hf ⊢
  obtain ⟨_,h | ⟨_,h⟩⟩:=ZDZ F nz h0 hn
  ·have:=Zat.1 hf; omega
  ·have k:=ZiG hK h0
   refine ⟨?_,fun L l1 l2 => (h L l1 (by omega)).2⟩
   obtain ⟨q1,q2⟩:=h (min F.low (K - 60)) (by omega) (by omega)
   exact ZnI (ZbX F _) q1 (Int.le_trans (Zbo _ hn) q2)
theorem ZCr (F : Fm) {a b : Nat} (ha : a < 2 * F.sg) (hb : b < 2 * F.sg) (na : (F.vl a).n = false) (nb : (F.vl b).n = false) (hf : F.fin (uA F a b)) : (F.vl (uA F a b)).n = false∧∀ L,L≤-4000→iv (F.vl a) L + iv (F.vl b) L≤iv (F.vl (uA F a b)) L:=by
 have hF:=Zak F
 obtain ⟨fa,fb⟩:=Zjc F 4 hf
 unfold uA addW at hf ⊢
 rw [Zok F 4 (Zat.1 fa) (Zat.1 fb)] at hf ⊢
 by_cases hz : F.cls a = 1∧F.cls b = 1∧F.ng a = F.ng b
 ·rw [if_pos hz,(ZaH F _).2.2.2]
  refine ⟨rfl,fun L _ => ?_⟩
  rw [Zah ((Zct ha fa).1 hz.1),Zah ((Zct hb fb).1 hz.2.1),Zah rfl]; decide
 ·rw [if_neg hz] at hf ⊢
  obtain ⟨i1,l1⟩:=Zbx (ZaB fa) (ZaB fb)
  have nz:=ZcT (ZbX F a) (ZbX F b)
  have hn:=ZnI nz l1 (by rw [i1]; have:=Zbo F.low na; have:=Zbo F.low nb; omega)
  obtain ⟨g1,g2⟩:=sumU F nz l1 hn hf
  refine ⟨g1,fun L hL => ?_⟩
  have:=g2 L (by omega) (by omega)
  rw [(Zbx (LoEv fa (by omega)) (LoEv fb (by omega))).1] at this
  exact this
theorem ZFp (F : Fm) {a b : Nat} (ha : a < 2 * F.sg) (hb : b < 2 * F.sg) (na : (F.vl a).n = false) (nb : (F.vl b).n = false) (hf : F.fin (uM F a b)) : (F.vl (uM F a b)).n = false∧∀ K L,K≤-4000→L≤-4000→iv (F.vl a) K * iv (F.vl b) L≤iv (F.vl (uM F a b)) (K + L):=by
 have hF:=Zak F
 obtain ⟨fa,fb⟩:=ZoR F 4 hf
 unfold uM mulW2 at hf ⊢
 rw [ZsR F 4 (Zat.1 fa) (Zat.1 fb)] at hf ⊢
 by_cases hz : F.cls a = 1∨F.cls b = 1
 ·rw [if_pos hz,(ZaH F _).2.2.2]
  refine ⟨rfl,fun K L _ _ => ?_⟩
  have : iv (F.vl a) K * iv (F.vl b) L = 0:=by
   rcases hz with h | h
   ·rw [Zah ((Zct ha fa).1 h),Int.zero_mul]
   ·rw [Zah ((Zct hb fb).1 h),Int.mul_zero]
  rw [this,Zah rfl]; decide
 ·rw [if_neg hz] at hf ⊢
  obtain ⟨i1,l1⟩:=Zbb (ZaB fa) (ZaB fb)
  have nz:=ZbB (F.vl a) (F.vl b)
  have hn:=ZnI nz l1 (by rw [i1]; exact Int.mul_nonneg (Zbo _ na) (Zbo _ nb))
  obtain ⟨g1,g2⟩:=sumU F nz l1 hn hf
  refine ⟨g1,fun K L hK hL => ?_⟩
  have:=g2 (K + L) (by omega) (by omega)
  rw [(Zbb (LoEv fa (by omega)) (LoEv fb (by omega))).1] at this
  exact this
theorem Ztu {d : Dy} {k : Nat} {L : Int} (h : LoE d L) : iv d L = iv (shD d (-(k : Int))) (L - k)∧LoE (shD d (-(k : Int))) (L - k):=by
 by_cases h0 : d.m = 0
 ·unfold shD; rw [if_pos h0,Zah h0,Zah h0]; exact ⟨rfl,Or.inl h0⟩
 ·have:=ZiG h h0
  unfold shD; rw [if_neg h0]
  refine ⟨?_,Or.inr (by simp only; omega)⟩
  unfold iv
  simp only
  rw [show (d.e - L).toNat = (d.e + -(k : Int) - (L - k)).toNat by omega]
theorem ZFr (F : Fm) {w : Nat} (hw : w < 2 * F.sg) (nw : (F.vl w).n = false) (hf : F.fin (uS F w)) : (F.vl (uS F w)).n = false∧∀ L,L≤-4000→iv (F.vl w) L≤((2 ^ (F.fr + 1) : Nat) : Int) * iv (F.vl (uS F w)) L:=by
 have hF:=Zak F
 have fw:=Zpk F 4 hf
 have cw:=Zat.1 fw
 unfold uS scaW at hf ⊢
 rw [if_neg (by omega)] at hf ⊢
 by_cases h1 : F.cls w = 4∨F.cls w = 1
 ·rw [if_pos h1]
  refine ⟨nw,fun L _ => ?_⟩
  simp only
  rw [Zah ((Zct hw fw).1 (by omega)),Int.mul_zero]; exact Int.le_refl _
 ·rw [if_neg h1] at hf ⊢
  have h0 : (F.vl w).m≠0:=fun q => h1 (Or.inr ((Zct hw fw).2 q))
  have hs0 : (shD (F.vl w) (-(F.fr + 1 : Nat))).m≠0:=by unfold shD; rw [if_neg h0]; exact h0
  have nz:=ZCD (ZbX F w) (-(F.fr + 1 : Nat))
  have hn : (shD (F.vl w) (-(F.fr + 1 : Nat))).n = false:=by unfold shD; rw [if_neg h0]; exact nw
  have e1 : rndW F 4 (shD (F.vl w) (-(F.fr + 1 : Nat))) = sumW F 4 (shD (F.vl w) (-(F.fr + 1 : Nat))):=by unfold sumW; rw [if_neg hs0]
  rw [e1] at hf ⊢
  obtain ⟨_,l1⟩:=Ztu (k:=F.fr + 1) (ZaB fw)
  obtain ⟨g1,g2⟩:=sumU F nz l1 hn hf
  refine ⟨g1,fun L hL => ?_⟩
  have h2:=g2 L (by omega) (by omega)
  obtain ⟨i3,_⟩:=Ztu (k:=F.fr + 1) (L:=L + (F.fr + 1 : Nat)) (LoEv fw (by omega))
  rw [show L + ((F.fr + 1 : Nat) : Int) - ((F.fr + 1 : Nat) : Int) = L by omega] at i3
  rw [← i3] at h2
  rw [ZkB (L:=L + (F.fr + 1 : Nat)) (L':=L) (LoEv fw (by omega)) (by omega),show (L + ((F.fr + 1 : Nat) : Int) - L).toNat = F.fr + 1 by omega,Int.mul_comm]
  exact Int.mul_le_mul_of_nonneg_left h2 (Int.natCast_nonneg _)
theorem ZyV (F : Fm) {p : Nat × Nat} (hf : F.fin (uN F p)) : (F.vl (uN F p)).n = false∧∀ L,L≤-4000→NB (iv (F.vl p.1) L) (iv (F.vl p.2) L) (iv (F.vl (uN F p)) L):=by
 have hF:=Zak F
 obtain ⟨f1,f2⟩:=ZtX F hf
 unfold uN at hf ⊢
 rw [Zoj F 4 f1 f2] at hf ⊢
 obtain ⟨_,h | ⟨_,h⟩⟩:=ZEa F (Zod F p.1 p.2)
 ·have:=Zat.1 hf; omega
 ·have lo : ∀ L,L≤-4000→2 * L≤(sqD F p.1 p.2).e - 200:=fun L hL => by
   by_cases h0 : (sqD F p.1 p.2).m = 0
   ·rw [(ZpE F p.1 p.2).1 h0]; simp only; omega
   ·have l1 : LoE (sqD F p.1 p.2) (F.low + F.low):=(Zbx (Zbb (ZaB f1) (ZaB f1)).2 (Zbb (ZaB f2) (ZaB f2)).2).2
    have:=ZiG l1 h0
    omega
  refine ⟨?_,fun L hL => ?_⟩
  ·obtain ⟨q1,q2,_⟩:=h (-4000) (by omega) (lo _ (Int.le_refl _))
   exact ZnI (ZbX F _) q2 q1
  ·obtain ⟨q1,q2,q3⟩:=h L (by omega) (lo L hL)
   rw [Zut F (LoEv f1 (by omega)) (LoEv f2 (by omega))] at q3
   exact ⟨q1,q3⟩
theorem Zra (F : Fm) {d : Dy} {w : Nat} (h0 : d.m = 0) (hv : F.vl w = ⟨false,0,0⟩) (L : Int) : Nr F d w L:=by
 unfold Nr
 rw [hv,Zah h0,Zah rfl]
 exact ⟨Or.inl rfl,by simp⟩
theorem ZyO (F : Fm) {d : Dy} (nz : Nz d) {K : Int} (hK : LoE d K) (hf : F.fin (sumW F 1 d).1) {L : Int} (l1 : L≤F.low) (l2 : L≤K - 60) : Nr F d (sumW F 1 d).1 L:=by
 unfold sumW at hf ⊢
 by_cases h0 : d.m = 0
 ·rw [if_pos h0]; show Nr F d (F.sgn (decide ((1 : Int) = 5))) L; exact Zra F h0 (ZaH F _).2.2.2 L
 ·rw [if_neg h0] at hf ⊢
  rcases Ztq F nz h0 with h | ⟨_,_,h⟩
  ·have:=Zat.1 hf; omega
  ·exact h L l1 (by have:=ZiG hK h0; omega)
theorem ZwN (F : Fm) {d : Dy} (nz : Nz d) {K : Int} (hK : LoE d K) {s : Bool} (hf : F.fin (ptQ F 1 d s oneD).1) {L : Int} (l1 : L≤F.low) (l2 : L≤K - 60) : Nr F d (ptQ F 1 d s oneD).1 L:=by
 unfold ptQ at hf ⊢
 by_cases h0 : d.m = 0
 ·rw [if_pos h0]; show Nr F d (F.sgn s) L; exact Zra F h0 (ZaH F _).2.2.2 L
 ·rw [if_neg h0] at hf ⊢
  have e : quoW F 1 d oneD = rndW F 1 d:=Zqv F 1 nz nz Zze h0 (by decide) (K:=K) (L:=0) (by rw [Int.add_zero]; exact hK) hK ZAW (by rw [ZDj,Int.mul_one,Int.add_zero])
  rw [e] at hf ⊢
  rcases Ztq F nz h0 with h | ⟨_,_,h⟩
  ·have:=Zat.1 hf; omega
  ·exact h L l1 (by have:=ZiG hK h0; omega)
theorem ZCz (F : Fm) {y z : Nat × Nat} (fy : Zf F y) (fz : Zf F z) (hf : Zf F (zM F y z)) : ∃ X1 X2 : Dy,(∀ K L,K≤-4000→L≤-4000→LoE X1 (K + L)∧LoE X2 (K + L) ∧
  iv X1 (K + L) = iv (F.vl y.1) K * iv (F.vl z.1) L - iv (F.vl y.2) K * iv (F.vl z.2) L∧iv X2 (K + L) = iv (F.vl y.1) K * iv (F.vl z.2) L + iv (F.vl y.2) K * iv (F.vl z.1) L)∧∀ L,L≤-4000→Nr F X1 (zM F y z).1 L∧Nr F X2 (zM F y z).2 L:=by
 have hF:=Zak F
 unfold zM at hf ⊢
 have e : mulZ F 1 y.1 y.2 z.1 z.2 = mulR F 1 y.1 y.2 z.1 z.2:=by unfold mulZ smS; rw [decide_eq_true ⟨(ZjH F).1 fy,(ZjH F).1 fz⟩]; rfl
 rw [e] at hf ⊢
 have lev : ∀ K L,K≤F.low→L≤F.low→LoE (addD (tm F y.1 z.1 false).1 (tm F y.2 z.2 true).1) (K + L)∧LoE (addD (tm F y.1 z.2 false).1 (tm F y.2 z.1 false).1) (K + L) ∧
   iv (addD (tm F y.1 z.1 false).1 (tm F y.2 z.2 true).1) (K + L) = iv (F.vl y.1) K * iv (F.vl z.1) L - iv (F.vl y.2) K * iv (F.vl z.2) L∧iv (addD (tm F y.1 z.2 false).1 (tm F y.2 z.1 false).1) (K + L) = iv (F.vl y.1) K * iv (F.vl z.2) L + iv (F.vl y.2) K * iv (F.vl z.1) L:=fun K L hK hL => by
  have a1:=(ZaB fy.1).mono hK
  have a2:=(ZaB fy.2).mono hK
  have b1:=(ZaB fz.1).mono hL
  have b2:=(ZaB fz.2).mono hL
  obtain ⟨m1,n1⟩:=Zbb a1 b1
  obtain ⟨m2,n2⟩:=Zbb a2 b2
  obtain ⟨m3,n3⟩:=Zbb a1 b2
  obtain ⟨m4,n4⟩:=Zbb a2 b1
  obtain ⟨i1,l1⟩:=Zbx n1 (Zms n2)
  obtain ⟨i2,l2⟩:=Zbx n3 n4
  refine ⟨l1,l2,?_,?_⟩
  ·show iv (addD (mulD (F.vl y.1) (F.vl z.1)) (negD (mulD (F.vl y.2) (F.vl z.2)))) (K + L) = _
   rw [i1,Zqa,m1,m2]; omega
  ·show iv (addD (mulD (F.vl y.1) (F.vl z.2)) (mulD (F.vl y.2) (F.vl z.1))) (K + L) = _
   rw [i2,m3,m4]
 refine ⟨_,_,fun K L hK hL => lev K L (by omega) (by omega),fun L hL => ?_⟩
 obtain ⟨k1,k2,_⟩:=lev F.low F.low (Int.le_refl _) (Int.le_refl _)
 exact ⟨ZwN F (ZcT (ZlS F _ _ _).2 (ZlS F _ _ _).2) k1 hf.1 (by omega) (by omega),ZwN F (ZcT (ZlS F _ _ _).2 (ZlS F _ _ _).2) k2 hf.2 (by omega) (by omega)⟩
theorem ZpH (F : Fm) {a b : Nat} (ha : a < 2 * F.sg) (hb : b < 2 * F.sg) (hf : F.fin (addW F 1 a b).1) {L : Int} (hL : L≤-4000) : Nr F (addD (F.vl a) (F.vl b)) (addW F 1 a b).1 L:=by
 have hF:=Zak F
 obtain ⟨fa,fb⟩:=Zjc F 1 hf
 unfold addW at hf ⊢
 rw [Zok F 1 (Zat.1 fa) (Zat.1 fb)] at hf ⊢
 obtain ⟨i1,l1⟩:=Zbx (ZaB fa) (ZaB fb)
 by_cases hz : F.cls a = 1∧F.cls b = 1∧F.ng a = F.ng b
 ·rw [if_pos hz]
  show Nr F _ (F.sgn (F.ng a)) L
  refine Zra F ?_ (ZaH F _).2.2.2 L
  exact ZpZ (ZcT (ZbX F a) (ZbX F b)) l1 (by rw [i1,Zah ((Zct ha fa).1 hz.1),Zah ((Zct hb fb).1 hz.2.1)]; rfl)
 ·rw [if_neg hz] at hf ⊢
  exact ZyO F (ZcT (ZbX F a) (ZbX F b)) l1 hf (by omega) (by omega)
end Go.Cv
namespace Go.Cv
theorem ZEo (F : Fm) {L : Int} (hL : L≤-2000) : iv (F.vl 2) L = 2 * ((2 ^ (F.low - L).toNat : Nat) : Int):=by
 have hF:=Zak F
 rw [(ZxC F).2.2]
 unfold iv
 simp only [Bool.false_eq_true,if_false,Int.one_mul,Nat.one_mul]
 rw [show (F.low + 1 - L).toNat = (F.low - L).toNat + 1 by omega,Nat.pow_succ,Int.natCast_mul,Int.mul_comm]
 rfl
theorem ZrP {F : Fm} {d : Dy} {w : Nat} {L : Int} (h : Nr F d w L) : 2 * ((2 ^ (F.fr + 1) : Nat) : Int) * ((iv d L - iv (F.vl w) L).natAbs : Int)≤2 * ((iv (F.vl w) L).natAbs : Int) + ((2 ^ (F.fr + 1) : Nat) : Int) * ((2 ^ (F.low - L).toNat : Nat) : Int):=by
 have:=Int.ofNat_le.2 h.2
 push_cast at this ⊢
 exact this
end Go.Cv
namespace Go.Cv
variable {G : Nat→Option (List AV)} {T : Tbl} {g : Nat}
theorem ZmA (J : Al G T g) (hP : HasK g T) (F : Fm) {md : Int} (hm : 1≤md∧md≤5) : run G T 404 [.int .u8 F.u,.int .u8 md] = some (.int .i64 0):=by
 rw [Zac G T hP.ZmA]
 have o1:=Zde J F hm (neg:=false)
 repeat' (first|simp (maxSteps:=9^7) only [seval,exC,Zhw,o1]|simp (maxSteps:=9^7) (disch:=first|with_reducible assumption|omega) only [dxB]|(simp only [kdB];split)|(simp only [kvB];split))
theorem ZmB (J : Al G T g) (hP : HasK g T) (F : Fm) {md : Int} (hm : 1≤md∧md≤5) {w : Nat} (hw : w < 2 * F.sg) : run G T 399 [.int .u8 F.u,.int .u8 md,.int .u64 (w : Int)] = some (.tup [.int .u8 (F.cls w),.bool (F.ng w),.int .i64 0]):=by
 rw [Zac G T hP.ZmB]
 have o1:=ZmA J hP F hm
 have c1:=Zba J F hw
 have s1:=ZdX J F hw
 generalize F.cls w = c at *
 generalize F.ng w = n at *
 generalize F.ex w = x at *
 generalize F.fc w = y at *
 simp only [fldA] at *
 repeat' (first|simp (maxSteps:=9^7) only [seval,exC,Zhx,o1,c1,s1]|simp (maxSteps:=9^7) (disch:=first|with_reducible assumption|omega) only [dxB]|(simp only [kdB];split)|(simp only [kvB];split))
theorem Zln (J : Al G T g) (hP : HasK g T) {z : Bool} {d : Dy} (nz : Nz d) (hd : Bd d 8192) {n : Int} (hn : -8192≤n∧n≤8192) : ∃ z',run G T 400 [DyA z d,.int .i64 n] = some (.tup [DyA z' (shD d n),.int .i64 0]):=by
 rw [Zac G T hP.Zln]
 have m1:=Zcu J d.n z (Zas d.m) d.e
 rw [ZaQ nz (hd.mono (by decide))] at m1
 have hl:=Zaa d.m
 obtain ⟨b1,b2,b3⟩:=hd
 unfold shD
 by_cases h0 : d.m = 0
 ·rw [if_pos h0]
  have hd0:=nz.1 h0
  refine ⟨true,?_⟩
  have l0 : ((dl d.m).length : Int) = 0:=by rw [h0,Zag]; rfl
  rw [hd0] at m1 l0 ⊢
  simp only [DyA,A3,Zag] at *
  repeat' (first|simp (maxSteps:=9^7) only [seval,exC,Zev,m1,l0,ZqY]|simp (maxSteps:=9^7) (disch:=first|with_reducible assumption|omega) only [dxB]|(simp only [kdB];split)|(simp only [kvB];split))
 ·rw [if_neg h0]
  have l0 : ¬ ((dl d.m).length : Int) = 0:=by
   have : (dl d.m).length≠0:=fun q => h0 (by have:=Zap (a:=d.m); first | exact this.1 q | (rw [List.length_eq_zero_iff] at q; have:=ZaI d.m; rw [q] at this; exact this.symm))
   omega
  obtain ⟨z',o1⟩:=Zjq J (n:=d.n) (z:=z) (l:=dl d.m) (e:=d.e) (by omega)
  refine ⟨z',?_⟩
  have w1 : IntKind.i64.wrap (16777216 - d.e) = 16777216 - d.e:=Zad (by omega)
  have w2 : IntKind.i64.wrap (-16777216 - d.e) = -16777216 - d.e:=Zad (by omega)
  have w3 : IntKind.i64.wrap (d.e + n) = d.e + n:=Zad (by omega)
  have t1 : ¬ 16777216 - d.e < n:=by omega
  have t2 : ¬ n < -16777216 - d.e:=by omega
  simp only [DyA,A3] at *
  repeat' (first|simp (maxSteps:=9^7) only [seval,exC,Zev,m1,l0,w1,w2,w3,t1,t2,o1]|simp (maxSteps:=9^7) (disch:=first|with_reducible assumption|omega) only [dxB]|(simp only [kdB];split)|(simp only [kvB];split))
theorem ZuI (F : Fm) (w : Nat) : Bd (F.vl w) 2048:=by
 by_cases h1 : (F.vl w).m = 0
 ·rw [(ZbX F w).1 h1]; exact ⟨by simp only [Zai]; omega,by simp,by simp⟩
 ·have hF:=Zak F
  have fa : F.fin w:=by
   by_cases h : F.fin w
   ·exact h
   ·exfalso; apply h1; unfold Fm.vl; rw [if_neg h]
  have e1:=Zgz F fa (by rw [← ZbA fa]; exact h1)
  rw [← ZbA fa] at e1
  obtain ⟨_,a1,a2,a3⟩:=e1
  exact ⟨by omega,by omega,by omega⟩
theorem ZCB {d : Dy} {K : Nat} (h : Bd d K) {n : Int} (hn : -(K : Int)≤n∧n≤K) : Bd (shD d n) (2 * K):=by
 obtain ⟨h1,h2,h3⟩:=h
 unfold shD
 split
 ·exact ⟨by omega,by omega,by omega⟩
 ·exact ⟨by simp only; omega,by simp only; omega,by simp only; omega⟩
theorem Zlm (J : Al G T g) (hP : HasK g T) (F : Fm) {md : Int} (hm : 1≤md∧md≤5) {w : Nat} (hw : w < 2 * F.sg) {n : Int} (hn : -2048≤n∧n≤2048) : run G T 393 [.int .u8 F.u,.int .u8 md,.int .u64 (w : Int),.int .i64 n] = some (.tup [.int .u64 ((scaW F md w n).1 : Int),.int .u8 ((scaW F md w n).2 : Int),.int .i64 0]):=by
 rw [Zac G T hP.Zlm]
 have o1:=ZmB J hP F hm hw
 unfold scaW
 by_cases h5 : F.cls w = 5
 ·rw [if_pos h5]
  rw [h5] at o1
  have n1:=ZfX J F
  generalize F.ng w = x at *
  generalize F.nan = y at *
  simp only [cast0]
  repeat' (first|simp (maxSteps:=9^7) only [seval,exC,ZbZ,o1,n1]|simp (maxSteps:=9^7) (disch:=first|with_reducible assumption|omega) only [dxB]|(simp only [kdB];split)|(simp only [kvB];split))
 ·rw [if_neg h5]
  by_cases h4 : F.cls w = 4∨F.cls w = 1
  ·rw [if_pos h4]
   generalize F.ng w = x at *
   generalize F.cls w = c at *
   simp only [cast0]
   by_cases c4 : c = 4
   ·repeat' (first|simp (maxSteps:=9^7) only [seval,exC,ZbZ,o1,h5,c4]|simp (maxSteps:=9^7) (disch:=first|with_reducible assumption|omega) only [dxB]|(simp only [kdB];split)|(simp only [kvB];split))
   ·have c1 : c = 1:=by omega
    repeat' (first|simp (maxSteps:=9^7) only [seval,exC,ZbZ,o1,h5,c4,c1]|simp (maxSteps:=9^7) (disch:=first|with_reducible assumption|omega) only [dxB]|(simp only [kdB];split)|(simp only [kvB];split))
  ·rw [if_neg h4]
   obtain ⟨z,k,v1⟩:=ZbS J F hw
   obtain ⟨z2,s1⟩:=Zln J hP (z:=z) (d:=F.vl w) (ZbX F w) ((ZuI F w).mono (by decide)) (n:=n) (by omega)
   have r1:=Zik J F hm (z:=z2) (ZaQ (ZCD (ZbX F w) n) ((ZCB (ZuI F w) (n:=n) (by omega)).mono (by decide)))
   have m1 : max (-16384) n = n:=by omega
   have m2 : min 16384 n = n:=by omega
   generalize rndW F md (shD (F.vl w) n) = R at *
   generalize shD (F.vl w) n = d at *
   generalize F.vl w = e at *
   generalize F.ng w = x at *
   generalize F.cls w = c at *
   have c4 : ¬ c = 4:=fun h => h4 (Or.inl h)
   have c1 : ¬ c = 1:=fun h => h4 (Or.inr h)
   simp only [DyA,A3] at *
   repeat' (first|simp (maxSteps:=9^7) only [seval,exC,ZbZ,o1,h5,c4,c1,v1,m1,m2,s1,r1]|simp (maxSteps:=9^7) (disch:=first|with_reducible assumption|omega) only [dxB]|(simp only [kdB];split)|(simp only [kvB];split))
end Go.Cv
namespace Go.Cv
variable {G : Nat→Option (List AV)} {T : Tbl} {g : Nat}
section
variable {α : Type} (bs L : List α) (v : α)
theorem ga0 : (bs ++ L)[bs.length]? = L[0]?:=by rw [List.getElem?_append_right (Nat.le_refl _),Nat.sub_self]
theorem ga1 : (bs ++ L)[bs.length + 1]? = L[1]?:=by rw [List.getElem?_append_right (Nat.le_add_right ..),Nat.add_sub_cancel_left]
theorem ga2 : (bs ++ L)[bs.length + 2]? = L[2]?:=by rw [List.getElem?_append_right (Nat.le_add_right ..),Nat.add_sub_cancel_left]
theorem ga3 : (bs ++ L)[bs.length + 3]? = L[3]?:=by rw [List.getElem?_append_right (Nat.le_add_right ..),Nat.add_sub_cancel_left]
theorem ga4 : (bs ++ L)[bs.length + 4]? = L[4]?:=by rw [List.getElem?_append_right (Nat.le_add_right ..),Nat.add_sub_cancel_left]
theorem gs0 : (bs ++ L).set bs.length v = bs ++ L.set 0 v:=by rw [List.set_append_right _ _ (Nat.le_refl _),Nat.sub_self]
theorem gs1 : (bs ++ L).set (bs.length + 1) v = bs ++ L.set 1 v:=by rw [List.set_append_right _ _ (Nat.le_add_right ..),Nat.add_sub_cancel_left]
theorem gs2 : (bs ++ L).set (bs.length + 2) v = bs ++ L.set 2 v:=by rw [List.set_append_right _ _ (Nat.le_add_right ..),Nat.add_sub_cancel_left]
theorem gs3 : (bs ++ L).set (bs.length + 3) v = bs ++ L.set 3 v:=by rw [List.set_append_right _ _ (Nat.le_add_right ..),Nat.add_sub_cancel_left]
theorem gs4 : (bs ++ L).set (bs.length + 4) v = bs ++ L.set 4 v:=by rw [List.set_append_right _ _ (Nat.le_add_right ..),Nat.add_sub_cancel_left]
theorem gap (K : List α) : bs ++ L ++ K = bs ++ (L ++ K):=List.append_assoc ..
theorem gal : (bs ++ L).length = bs.length + L.length:=List.length_append
end
theorem gaB {α : Type} : type_of% (And.intro (And.intro (And.intro (@ga0 α) (And.intro (@ga1 α) (@ga2 α))) (And.intro (@ga3 α) (@ga4 α))) (And.intro (And.intro (@gs0 α) (And.intro (@gs1 α) (@gs2 α))) (And.intro (And.intro (@gs3 α) (@gs4 α)) (And.intro (@gap α) (@gal α))))):=And.intro (And.intro (And.intro (@ga0 α) (And.intro (@ga1 α) (@ga2 α))) (And.intro (@ga3 α) (@ga4 α))) (And.intro (And.intro (@gs0 α) (And.intro (@gs1 α) (@gs2 α))) (And.intro (And.intro (@gs3 α) (@gs4 α)) (And.intro (@gap α) (@gal α))))
theorem Zht : ∀ l : List (Nat × Nat),(zcells l).length = l.length * 2
 | [] => rfl
 | p :: l => by rw [zcells,List.length_cons,List.length_cons,List.length_cons,Zht l]; omega
def zc (l : List (Nat × Nat)) (i : Nat) : Nat × Nat:=l.getD i (0,0)
theorem ZEx {l : List (Nat × Nat)} {i : Nat} (h : i < l.length) : zc l i = l[i]:=by unfold zc; rw [List.getD_eq_getElem?_getD,List.getElem?_eq_getElem h]; rfl
theorem Zog {l : List (Nat × Nat)} {i : Nat} (h : i < l.length) : zc l i ∈ l:=by rw [ZEx h]; exact List.getElem_mem h
theorem ZgS {l : List (Nat × Nat)} {i : Nat} (h : i < l.length) : l.drop i = zc l i :: l.drop (i + 1):=by rw [ZEx h]; exact List.drop_eq_getElem_cons h
theorem Zio : ∀ (l : List (Nat × Nat)) (i : Nat),(zcells l).drop (i * 2) = zcells (l.drop i)
 | l,0 => rfl
 | [],i + 1 => by simp [zcells]
 | p :: l,i + 1 => by
  rw [zcells,List.drop_succ_cons,← Zio l i,show (i + 1) * 2 = i * 2 + 1 + 1 by omega,List.drop_succ_cons,List.drop_succ_cons]
theorem ZuG {l : List (Nat × Nat)} {i : Nat} (h : i < l.length) : ((zcells l).drop (i * 2)).take 2 = [.int .u64 ((zc l i).1 : Int),.int .u64 ((zc l i).2 : Int)]:=by
 rw [Zio,ZgS h]; rfl
theorem ZEF {z : Bool} {l : List (Nat × Nat)} (h : l≠[]) : ZL z l = .imm l.length (zcells l):=by unfold ZL; rw [if_neg (fun q => h q.2)]
theorem ZzO (z : Bool) (l : List (Nat × Nat)) : lenA (ZL z l) = some l.length:=by
 unfold ZL
 split
 ·next h => rw [h.2]; rfl
 ·rfl
theorem sn_Z (g : Nat→Nat→Nat→Nat→Option AV) (z : Bool) (l : List (Nat × Nat)) : snapA g (ZL z l) = some (ZL z l):=by
 unfold ZL
 split
 ·exact ZqJ g
 ·exact ZtD g _ _
theorem Zlp {z : Bool} {l : List (Nat × Nat)} {k : IntKind} {j : Int} (h : 0≤j∧j.toNat < l.length) : iaddrV 2 (ZL z l) (.int k j) = some (.iptr (zcells l) (j.toNat * 2)):=by
 rw [ZEF (by rintro rfl; exact absurd h.2 (Nat.not_lt_zero _)),iaddrV,if_pos ⟨h.1,by omega,by decide,Zht l⟩]
theorem rd_Z (m : Mem) {l : List (Nat × Nat)} {i : Nat} (h : i < l.length) : rdAt G m 2 (.iptr (zcells l) (i * 2)) = some [.int .u64 ((zc l i).1 : Int),.int .u64 ((zc l i).2 : Int)]:=by
 rw [rdAt,if_pos (by rw [Zht]; omega),ZuG h]
theorem ZFk (m : Mem) {l : List (Nat × Nat)} {i : Nat} (h : i < l.length) : rdAt G m 1 (.iptr (zcells l) (i * 2 + 0)) = some [.int .u64 ((zc l i).1 : Int)]:=by
 rw [rdAt,if_pos (by rw [Zht]; omega),Nat.add_zero,Zio,ZgS h]; rfl
theorem ZFl (m : Mem) {l : List (Nat × Nat)} {i : Nat} (h : i < l.length) : rdAt G m 1 (.iptr (zcells l) (i * 2 + 1)) = some [.int .u64 ((zc l i).2 : Int)]:=by
 rw [rdAt,if_pos (by rw [Zht]; omega),← List.drop_drop,Zio,ZgS h]; rfl
theorem ZDM (z : Bool) (l : List (Nat × Nat)) : okCell (ZL z l) = true:=by unfold ZL; split <;> rfl
theorem ca_Z (z : Bool) (l : List (Nat × Nat)) : cellsA (ZL z l) = [ZL z l]:=by unfold ZL; split <;> rfl
theorem rl_Z (gg : Nat→List Nat) (z : Bool) (m : List (Nat × Nat)) (l : List AV) : reachL gg (ZL z m :: l) = reachL gg l:=by
 unfold ZL
 split
 ·exact ZrE gg l
 ·exact ZwY gg _ _ l
theorem ZCY (h : Mem) (r : AV) (z : Bool) (m : List (Nat × Nat)) (args : List AV) : frz h r (ZL z m :: args) = frz h r args:=by
 unfold ZL
 split
 ·exact ZoH h r args
 ·exact Zrk h r _ _ args
theorem ZB : type_of% (And.intro (And.intro @ZzO @sn_Z) (And.intro (And.intro @ZDM @ca_Z) (And.intro @rl_Z @ZCY))):=And.intro (And.intro @ZzO @sn_Z) (And.intro (And.intro @ZDM @ca_Z) (And.intro @rl_Z @ZCY))
theorem Zng (e : Env) (h : Heap) : evL G T Zbm e h = kS G T (evL G T Zbl (keepE [0,5,9,27,28,29] e) h) Zbm:=Zae G T rfl e h
theorem ZAR {F : Fm} {a : Nat × Nat} : Zf F a↔zcl (F.cls a.1) (F.cls a.2)≤2:=ZjH F
def W64 (l : List (Nat × Nat)) : Prop:=∀ a ∈ l,a.1 < 18446744073709551616∧a.2 < 18446744073709551616
def Zws (F : Fm) (l : List (Nat × Nat)) : Prop:=∀ a ∈ l,Zw F a
def Zfs (F : Fm) (l : List (Nat × Nat)) : Prop:=∀ a ∈ l,Zf F a
theorem ZrU {F : Fm} {a : Nat × Nat} {l : List (Nat × Nat)} : Zws F (a :: l)↔Zw F a∧Zws F l:=List.forall_mem_cons
theorem ZrT {F : Fm} {a : Nat × Nat} {l : List (Nat × Nat)} : Zfs F (a :: l)↔Zf F a∧Zfs F l:=List.forall_mem_cons
theorem ZuT {F : Fm} : Zws F []:=fun _ h => by cases h
theorem ZuS {F : Fm} : Zfs F []:=fun _ h => by cases h
set_option maxHeartbeats 4000000 in
theorem ZjM (J : Al G T g) (hP : HasK g T) (F : Fm) {l : List (Nat × Nat)} {z : Bool} {p : AV} {B : Blk} (hl : l.length≤41) (h64 : W64 l) : ∀ (m i : Nat) (fl : Bool) (bs : List Blk),i + m = l.length →
  ∃ bs' fl',(Zws F (l.drop i)∧(fl' = true↔fl = true∧Zfs F (l.drop i))∧evL G T Zbm [(0,.int .u8 F.u),(5,p),(9,.bool fl),(27,ZL z l),(28,.int .i64 (l.length : Int)),(29,.int .i64 (i : Int))] ⟨B :: bs,[]⟩ =
    some (.exit 0,[(0,.int .u8 F.u),(5,p),(9,.bool fl'),(27,ZL z l),(28,.int .i64 (l.length : Int)),(29,.int .i64 (l.length : Int)),(30,.bool false)],⟨B :: bs',[]⟩)) ∨
   (¬ Zws F (l.drop i)∧evL G T Zbm [(0,.int .u8 F.u),(5,p),(9,.bool fl),(27,ZL z l),(28,.int .i64 (l.length : Int)),(29,.int .i64 (i : Int))] ⟨B :: bs,[]⟩ = some (.ret,[(6,.int .i64 6)],⟨B :: bs',[]⟩))
 | 0,i,fl,bs,hi => by
  have he : i = l.length:=by omega
  subst he
  have hd : l.drop l.length = []:=List.drop_length
  have hn : ¬ (l.length : Int) < (l.length : Int):=by omega
  refine ⟨bs,fl,Or.inl ⟨by rw [hd]; exact ZuT,by rw [hd]; simp [ZuS],?_⟩⟩
  rw [Zng]
  repeat' (first|simp (maxSteps:=9^7) only [seval,exC,Zbl,hn]|simp (maxSteps:=9^7) (disch:=first|with_reducible assumption|omega) only [dxB]|(simp only [kdB];split)|(simp only [kvB];split))
 | m + 1,i,fl,bs,hi => by
  have hil : i < l.length:=by omega
  have hlt : (i : Int) < (l.length : Int):=by omega
  have hm:=Zog hil
  obtain ⟨u1,u2⟩:=h64 _ hm
  have hd:=ZgS hil
  have t1 : ((i : Int)).toNat = i:=Int.toNat_natCast i
  have w1 : IntKind.i64.wrap ((i : Int) + 1) = ((i + 1 : Nat) : Int):=by rw [Zad (by omega)]; rfl
  have ia:=Zlp (z:=z) (l:=l) (k:=.i64) (j:=(i : Int)) ⟨by omega,by omega⟩
  rw [t1] at ia
  have rd:=fun mm => rd_Z (G:=G) mm hil
  rw [hd]
  simp only [ZrU,ZrT]
  generalize zc l i = a at *
  obtain ⟨a,b⟩:=a
  simp only at u1 u2 rd
  by_cases hw : a < 2 * F.sg∧b < 2 * F.sg
  ·have c1:=Zdc J F hw.1 hw.2
   have hZ : Zw F (a,b):=hw
   have hfe : ∃ f1,(f1 = true↔fl = true∧Zf F (a,b))∧∀ h',evL G T Zbm [(0,.int .u8 F.u),(5,p),(9,.bool fl),(27,ZL z l),(28,.int .i64 (l.length : Int)),(29,.int .i64 (i : Int))] ⟨B :: bs,[]⟩ = evL G T Zbm [(0,.int .u8 F.u),(5,p),(9,.bool f1),(27,ZL z l),(28,.int .i64 (l.length : Int)),(29,.int .i64 ((i + 1 : Nat) : Int))] ⟨B :: (bs ++ [⟨[.int .u64 (a : Int),.int .u64 (b : Int)],false⟩]),[]⟩∨h':=by
    rw [ZAR]
    simp only
    generalize zcl (F.cls a) (F.cls b) = c at *
    simp only [zA] at *
    cases fl
    ·refine ⟨false,by simp,fun h' => Or.inl ?_⟩
     rw [Zng]
     repeat' (first|simp (maxSteps:=9^7) only [seval,exC,Zbl,hlt,ia,rd,gaB,ZB,c1,w1]|simp (maxSteps:=9^7) (disch:=first|with_reducible assumption|omega) only [dxB]|(simp only [kdB];split)|(simp only [kvB];split))
    ·by_cases c2 : c≤2
     ·refine ⟨true,by simp [c2],fun h' => Or.inl ?_⟩
      rw [Zng]
      repeat' (first|simp (maxSteps:=9^7) only [seval,exC,Zbl,hlt,ia,rd,gaB,ZB,c1,c2,w1]|simp (maxSteps:=9^7) (disch:=first|with_reducible assumption|omega) only [dxB]|(simp only [kdB];split)|(simp only [kvB];split))
     ·refine ⟨false,by simp [c2],fun h' => Or.inl ?_⟩
      rw [Zng]
      repeat' (first|simp (maxSteps:=9^7) only [seval,exC,Zbl,hlt,ia,rd,gaB,ZB,c1,c2,w1]|simp (maxSteps:=9^7) (disch:=first|with_reducible assumption|omega) only [dxB]|(simp only [kdB];split)|(simp only [kvB];split))
   obtain ⟨f1,hf1,hev⟩:=hfe
   have hev:=(hev False).resolve_right id
   obtain ⟨bs',fl',h⟩:=ZjM J hP F (z:=z) (p:=p) (B:=B) hl h64 m (i + 1) f1 (bs ++ [⟨[.int .u64 (a : Int),.int .u64 (b : Int)],false⟩]) (by omega)
   rw [← hev] at h
   refine ⟨bs',fl',h.imp (fun q => ⟨⟨hZ,q.1⟩,by rw [q.2.1,hf1,and_assoc],q.2.2⟩) (fun q => ⟨fun r => q.1 r.2,q.2⟩)⟩
  ·have c1:=ZjK J F u1 u2 hw
   refine ⟨bs ++ [⟨[.int .u64 (a : Int),.int .u64 (b : Int)],false⟩],fl,Or.inr ⟨fun q => hw q.1,?_⟩⟩
   rw [Zng]
   simp only [zA] at *
   repeat' (first|simp (maxSteps:=9^7) only [seval,exC,Zbl,hlt,ia,rd,gaB,ZB,c1,w1]|simp (maxSteps:=9^7) (disch:=first|with_reducible assumption|omega) only [dxB]|(simp only [kdB];split)|(simp only [kvB];split))
end Go.Cv
namespace Go.Cv
variable {G : Nat→Option (List AV)} {T : Tbl} {g : Nat}
open Classical in
noncomputable def opC (F : Fm) (l : List (Nat × Nat)) (p : Nat × Nat) : Int:=if 41 < l.length then 3 else if Zws F l∧Zw F p then (if Zfs F l∧Zf F p then 0 else 7) else 6
open Classical in
theorem ZoY {F : Fm} {l : List (Nat × Nat)} {p : Nat × Nat} (h : 41 < l.length) : opC F l p = 3:=if_pos h
open Classical in
theorem ZkH {F : Fm} {l : List (Nat × Nat)} {p : Nat × Nat} (h : ¬ 41 < l.length) (hw : ¬ (Zws F l∧Zw F p)) : opC F l p = 6:=by unfold opC; rw [if_neg h,if_neg hw]
open Classical in
theorem Zmg {F : Fm} {l : List (Nat × Nat)} {p : Nat × Nat} (h : ¬ 41 < l.length) (hw : Zws F l∧Zw F p) (hf : ¬ (Zfs F l∧Zf F p)) : opC F l p = 7:=by unfold opC; rw [if_neg h,if_pos hw,if_neg hf]
open Classical in
theorem ZsZ {F : Fm} {l : List (Nat × Nat)} {p : Nat × Nat} (h : ¬ 41 < l.length) (hw : Zws F l∧Zw F p) (hf : Zfs F l∧Zf F p) : opC F l p = 0:=by unfold opC; rw [if_neg h,if_pos hw,if_pos hf]
set_option maxHeartbeats 4000000 in
theorem Znh (J : Al G T g) (hP : HasK g T) (F : Fm) {l : List (Nat × Nat)} {z : Bool} {a b : Nat} (h64 : W64 l) (ha : a < 18446744073709551616) (hb : b < 18446744073709551616) :
  run G T 375 [.int .u8 F.u,ZL z l,zA a b] = some (.int .i64 (opC F l (a,b))):=by
 rw [Zac G T hP.Znh]
 have n1:=ZfX J F
 by_cases hl : 41 < l.length
 ·rw [ZoY hl]
  have hl' : 41 < (l.length : Int):=by omega
  simp only [zA]
  generalize F.nan = x at *
  repeat' (first|simp (maxSteps:=9^7) only [seval,exC,ZbH,ZB,n1,hl']|simp (maxSteps:=9^7) (disch:=first|with_reducible assumption|omega) only [dxB]|(simp only [kdB];split)|(simp only [kvB];split))
 ·have hl' : ¬ 41 < (l.length : Int):=by omega
  obtain ⟨bs',fl',h⟩:=ZjM J hP F (z:=z) (p:=.ptr 0 0) (B:=⟨[.int .u64 (a : Int),.int .u64 (b : Int)],false⟩) (l:=l) (by omega) h64 l.length 0 true [] (by omega)
  rw [List.drop_zero] at h
  generalize F.nan = x at *
  rcases h with ⟨h1,h2,h3⟩ | ⟨h1,h3⟩
  ·by_cases hp : a < 2 * F.sg∧b < 2 * F.sg
   ·have c1:=Zdc J F hp.1 hp.2
    have zl:=ZAR (F:=F) (a:=(a,b))
    simp only at zl
    by_cases hf : Zfs F l∧Zf F (a,b)
    ·rw [ZsZ (p:=(a,b)) hl ⟨h1,hp⟩ hf]
     have f1 : fl' = true:=h2.2 ⟨rfl,hf.1⟩
     subst f1
     have c2:=zl.1 hf.2
     generalize zcl (F.cls a) (F.cls b) = c at *
     simp only [zA,cast0] at *
     repeat' (first|simp (maxSteps:=9^7) only [seval,exC,ZbH,ZB,n1,hl',h3,c1,c2]|simp (maxSteps:=9^7) (disch:=first|with_reducible assumption|omega) only [dxB]|(simp only [kdB];split)|(simp only [kvB];split))
    ·rw [Zmg (p:=(a,b)) hl ⟨h1,hp⟩ hf]
     have fc : fl' = false∨(fl' = true∧¬ zcl (F.cls a) (F.cls b)≤2):=by
      cases fl' with
      | false => exact Or.inl rfl
      | true => exact Or.inr ⟨rfl,fun q => hf ⟨(h2.1 rfl).2,zl.2 q⟩⟩
     generalize zcl (F.cls a) (F.cls b) = c at *
     simp only [zA,cast0] at *
     rcases fc with rfl | ⟨rfl,c2⟩
     ·repeat' (first|simp (maxSteps:=9^7) only [seval,exC,ZbH,ZB,n1,hl',h3,c1]|simp (maxSteps:=9^7) (disch:=first|with_reducible assumption|omega) only [dxB]|(simp only [kdB];split)|(simp only [kvB];split))
     ·repeat' (first|simp (maxSteps:=9^7) only [seval,exC,ZbH,ZB,n1,hl',h3,c1,c2]|simp (maxSteps:=9^7) (disch:=first|with_reducible assumption|omega) only [dxB]|(simp only [kdB];split)|(simp only [kvB];split))
   ·rw [ZkH (p:=(a,b)) hl (fun q => hp q.2)]
    have c1:=ZjK J F ha hb hp
    simp only [zA,cast0] at *
    repeat' (first|simp (maxSteps:=9^7) only [seval,exC,ZbH,ZB,n1,hl',h3,c1]|simp (maxSteps:=9^7) (disch:=first|with_reducible assumption|omega) only [dxB]|(simp only [kdB];split)|(simp only [kvB];split))
  ·rw [ZkH (p:=(a,b)) hl (fun q => h1 q.1)]
   simp only [zA,cast0] at *
   repeat' (first|simp (maxSteps:=9^7) only [seval,exC,ZbH,ZB,n1,hl',h3]|simp (maxSteps:=9^7) (disch:=first|with_reducible assumption|omega) only [dxB]|(simp only [kdB];split)|(simp only [kvB];split))
theorem Zub (J : Al G T g) (F : Fm) {l : List (Nat × Nat)} {z : Bool} {h : Heap} (hl : l.length≤4611686018427387904) (h64 : W64 l) : ∀ (m i : Nat),i + m = l.length →
  (Zws F (l.drop i)∧∃ e,evL G T Zcg [(0,.int .u8 F.u),(1,ZL z l),(5,.int .i64 (i : Int))] h = some (.exit 0,e,h))∨(¬ Zws F (l.drop i)∧evL G T Zcg [(0,.int .u8 F.u),(1,ZL z l),(5,.int .i64 (i : Int))] h = some (.ret,[(4,.int .i64 6)],h))
 | 0,i,hi => by
  have he : i = l.length:=by omega
  subst he
  refine Or.inl ⟨by rw [List.drop_length]; exact ZuT,?_⟩
  have hn : ¬ (l.length : Int) < (l.length : Int):=by omega
  rw [ZmO]
  repeat' (first|simp (maxSteps:=9^7) only [seval,exC,Zay,ZB,hn]|simp (maxSteps:=9^7) (disch:=first|with_reducible assumption|omega) only [dxB]|(simp only [kdB];split)|(simp only [kvB];split))
  exact ⟨_,rfl⟩
 | m + 1,i,hi => by
  have hil : i < l.length:=by omega
  have hlt : (i : Int) < (l.length : Int):=by omega
  obtain ⟨u1,u2⟩:=h64 _ (Zog hil)
  have t1 : ((i : Int)).toNat = i:=Int.toNat_natCast i
  have w1 : IntKind.i64.wrap ((i : Int) + 1) = ((i + 1 : Nat) : Int):=by rw [Zad (by omega)]; rfl
  have ia:=Zlp (z:=z) (l:=l) (k:=.i64) (j:=(i : Int)) ⟨by omega,by omega⟩
  rw [t1] at ia
  have rd0:=fun mm => ZFk (G:=G) mm hil
  have rd1:=fun mm => ZFl (G:=G) mm hil
  rw [ZgS hil,ZrU]
  have g1:=Zfx J F u1
  have g2:=Zfx J F u2
  have ih:=Zub J F (z:=z) (h:=h) hl h64 m (i + 1) (by omega)
  rw [ZmO]
  unfold Zw
  generalize zc l i = a at *
  by_cases k1 : a.1 < 2 * F.sg
  ·rw [if_pos k1] at g1
   by_cases k2 : a.2 < 2 * F.sg
   ·rw [if_pos k2] at g2
    rcases ih with ⟨q1,e,q2⟩ | ⟨q1,q2⟩
    ·refine Or.inl ⟨⟨⟨k1,k2⟩,q1⟩,e,?_⟩
     repeat' (first|simp (maxSteps:=9^7) only [seval,exC,Zay,ZB,hlt,ia,fa_i,rd0,rd1,g1,g2,w1,q2]|simp (maxSteps:=9^7) (disch:=first|with_reducible assumption|omega) only [dxB]|(simp only [kdB];split)|(simp only [kvB];split))
    ·refine Or.inr ⟨fun q => q1 q.2,?_⟩
     repeat' (first|simp (maxSteps:=9^7) only [seval,exC,Zay,ZB,hlt,ia,fa_i,rd0,rd1,g1,g2,w1,q2]|simp (maxSteps:=9^7) (disch:=first|with_reducible assumption|omega) only [dxB]|(simp only [kdB];split)|(simp only [kvB];split))
   ·rw [if_neg k2] at g2
    refine Or.inr ⟨fun q => k2 q.1.2,?_⟩
    repeat' (first|simp (maxSteps:=9^7) only [seval,exC,Zay,ZB,hlt,ia,fa_i,rd0,rd1,g1,g2]|simp (maxSteps:=9^7) (disch:=first|with_reducible assumption|omega) only [dxB]|(simp only [kdB];split)|(simp only [kvB];split))
  ·rw [if_neg k1] at g1
   refine Or.inr ⟨fun q => k1 q.1.1,?_⟩
   repeat' (first|simp (maxSteps:=9^7) only [seval,exC,Zay,ZB,hlt,ia,fa_i,rd0,rd1,g1]|simp (maxSteps:=9^7) (disch:=first|with_reducible assumption|omega) only [dxB]|(simp only [kdB];split)|(simp only [kvB];split))
open Classical in
theorem ZrD (J : Al G T g) (F : Fm) {l : List (Nat × Nat)} {z : Bool} (hl : l.length≤4611686018427387904) (h64 : W64 l) : run G T 185 [.int .u8 F.u,ZL z l] = some (.int .i64 (if Zws F l then 0 else 6)):=by
 rw [Zac G T J.U.ref10_Good]
 have h1:=ZkR J F
 have h:=Zub J F (z:=z) (h:=⟨[],[]⟩) hl h64 l.length 0 (by omega)
 rw [List.drop_zero,cast0] at h
 rcases h with ⟨q1,e,q2⟩ | ⟨q1,q2⟩
 ·rw [if_pos q1]
  repeat' (first|simp (maxSteps:=9^7) only [seval,exC,ZbD,h1,q2]|simp (maxSteps:=9^7) (disch:=first|with_reducible assumption|omega) only [dxB]|(simp only [kdB];split)|(simp only [kvB];split))
 ·rw [if_neg q1]
  repeat' (first|simp (maxSteps:=9^7) only [seval,exC,ZbD,h1,q2]|simp (maxSteps:=9^7) (disch:=first|with_reducible assumption|omega) only [dxB]|(simp only [kdB];split)|(simp only [kvB];split))
theorem ZwZ (e : Env) (h : Heap) : evL G T ZbK e h = kS G T (evL G T Zbe (keepE [0,1,5,8] e) h) ZbK:=Zae G T rfl e h
theorem Ziq (J : Al G T g) (F : Fm) {l : List (Nat × Nat)} {z : Bool} {p : AV} {h : Heap} (hl : l.length≤41) (hw : Zws F l) : ∀ (m i : Nat),i + m = l.length →
  (Zfs F (l.drop i)∧evL G T ZbK [(0,.int .u8 F.u),(1,ZL z l),(5,p),(8,.int .i64 (i : Int))] h = some (.exit 0,[(0,.int .u8 F.u),(1,ZL z l),(5,p),(8,.int .i64 (l.length : Int)),(30,.bool false)],h))∨(¬ Zfs F (l.drop i)∧evL G T ZbK [(0,.int .u8 F.u),(1,ZL z l),(5,p),(8,.int .i64 (i : Int))] h = some (.ret,[(6,.int .i64 7)],h))
 | 0,i,hi => by
  have he : i = l.length:=by omega
  subst he
  refine Or.inl ⟨by rw [List.drop_length]; exact ZuS,?_⟩
  have hn : ¬ (l.length : Int) < (l.length : Int):=by omega
  rw [ZwZ]
  repeat' (first|simp (maxSteps:=9^7) only [seval,exC,Zbe,ZB,hn]|simp (maxSteps:=9^7) (disch:=first|with_reducible assumption|omega) only [dxB]|(simp only [kdB];split)|(simp only [kvB];split))
 | m + 1,i,hi => by
  have hil : i < l.length:=by omega
  have hlt : (i : Int) < (l.length : Int):=by omega
  obtain ⟨u1,u2⟩:=hw _ (Zog hil)
  have t1 : ((i : Int)).toNat = i:=Int.toNat_natCast i
  have w1 : IntKind.i64.wrap ((i : Int) + 1) = ((i + 1 : Nat) : Int):=by rw [Zad (by omega)]; rfl
  have ia:=Zlp (z:=z) (l:=l) (k:=.i64) (j:=(i : Int)) ⟨by omega,by omega⟩
  rw [t1] at ia
  have rd:=fun mm => rd_Z (G:=G) mm hil
  rw [ZgS hil,ZrT]
  have f1:=ZgB J F u1 u2
  have ih:=Ziq J F (z:=z) (p:=p) (h:=h) hl hw m (i + 1) (by omega)
  rw [ZwZ]
  unfold Zf
  generalize zc l i = a at *
  simp only [zA] at *
  by_cases k1 : F.fin a.1∧F.fin a.2
  ·rw [decide_eq_true k1] at f1
   rcases ih with ⟨q1,q2⟩ | ⟨q1,q2⟩
   ·refine Or.inl ⟨⟨k1,q1⟩,?_⟩
    repeat' (first|simp (maxSteps:=9^7) only [seval,exC,Zbe,ZB,hlt,ia,rd,f1,w1,q2]|simp (maxSteps:=9^7) (disch:=first|with_reducible assumption|omega) only [dxB]|(simp only [kdB];split)|(simp only [kvB];split))
   ·refine Or.inr ⟨fun q => q1 q.2,?_⟩
    repeat' (first|simp (maxSteps:=9^7) only [seval,exC,Zbe,ZB,hlt,ia,rd,f1,w1,q2]|simp (maxSteps:=9^7) (disch:=first|with_reducible assumption|omega) only [dxB]|(simp only [kdB];split)|(simp only [kvB];split))
  ·rw [decide_eq_false k1] at f1
   refine Or.inr ⟨fun q => k1 q.1,?_⟩
   repeat' (first|simp (maxSteps:=9^7) only [seval,exC,Zbe,ZB,hlt,ia,rd,f1]|simp (maxSteps:=9^7) (disch:=first|with_reducible assumption|omega) only [dxB]|(simp only [kdB];split)|(simp only [kvB];split))
set_option maxHeartbeats 4000000 in
theorem Zih (J : Al G T g) (hP : HasK g T) (F : Fm) {l : List (Nat × Nat)} {z : Bool} {a b : Nat} (h64 : W64 l) (ha : a < 18446744073709551616) (hb : b < 18446744073709551616) :
  run G T 344 [.int .u8 F.u,ZL z l,zA a b] = some (.int .i64 (opC F l (a,b))):=by
 rw [Zac G T hP.Zih]
 have h1:=ZkR J F
 by_cases hl : 41 < l.length
 ·rw [ZoY hl]
  have hl' : 41 < (l.length : Int):=by omega
  simp only [zA]
  repeat' (first|simp (maxSteps:=9^7) only [seval,exC,ZaP,ZB,h1,hl']|simp (maxSteps:=9^7) (disch:=first|with_reducible assumption|omega) only [dxB]|(simp only [kdB];split)|(simp only [kvB];split))
 ·have hl' : ¬ 41 < (l.length : Int):=by omega
  have g1:=ZrD J F (z:=z) (l:=l) (by omega) h64
  have g2:=ZrC J F ha hb
  by_cases hw : Zws F l
  ·rw [if_pos hw] at g1
   by_cases hp : a < 2 * F.sg∧b < 2 * F.sg
   ·rw [if_pos hp] at g2
    have f2:=ZgB J F hp.1 hp.2
    have ih:=Ziq J F (z:=z) (p:=.ptr 0 0) (h:=⟨[⟨[.int .u64 (a : Int),.int .u64 (b : Int)],false⟩,⟨[.int .u64 (a : Int),.int .u64 (b : Int)],false⟩],fz1 (.int .i64 0) [1]⟩) (l:=l) (by omega) hw l.length 0 (by omega)
    rw [List.drop_zero,cast0] at ih
    rcases ih with ⟨q1,q2⟩ | ⟨q1,q2⟩
    ·by_cases hf : F.fin a∧F.fin b
     ·rw [ZsZ (p:=(a,b)) hl ⟨hw,hp⟩ ⟨q1,hf⟩]
      rw [decide_eq_true hf] at f2
      simp only [zA] at *
      repeat' (first|simp (maxSteps:=9^7) only [seval,exC,ZaP,ZB,h1,hl',g1,g2,ZgI,q2,f2]|simp (maxSteps:=9^7) (disch:=first|with_reducible assumption|omega) only [dxB]|(simp only [kdB];split)|(simp only [kvB];split))
     ·rw [Zmg (p:=(a,b)) hl ⟨hw,hp⟩ (fun q => hf q.2)]
      rw [decide_eq_false hf] at f2
      simp only [zA] at *
      repeat' (first|simp (maxSteps:=9^7) only [seval,exC,ZaP,ZB,h1,hl',g1,g2,ZgI,q2,f2]|simp (maxSteps:=9^7) (disch:=first|with_reducible assumption|omega) only [dxB]|(simp only [kdB];split)|(simp only [kvB];split))
    ·rw [Zmg (p:=(a,b)) hl ⟨hw,hp⟩ (fun q => q1 q.1)]
     simp only [zA] at *
     repeat' (first|simp (maxSteps:=9^7) only [seval,exC,ZaP,ZB,h1,hl',g1,g2,ZgI,q2]|simp (maxSteps:=9^7) (disch:=first|with_reducible assumption|omega) only [dxB]|(simp only [kdB];split)|(simp only [kvB];split))
   ·rw [if_neg hp] at g2
    rw [ZkH (p:=(a,b)) hl (fun q => hp q.2)]
    simp only [zA] at *
    repeat' (first|simp (maxSteps:=9^7) only [seval,exC,ZaP,ZB,h1,hl',g1,g2,ZgI]|simp (maxSteps:=9^7) (disch:=first|with_reducible assumption|omega) only [dxB]|(simp only [kdB];split)|(simp only [kvB];split))
  ·rw [if_neg hw] at g1
   rw [ZkH (p:=(a,b)) hl (fun q => hw q.1)]
   simp only [zA] at *
   repeat' (first|simp (maxSteps:=9^7) only [seval,exC,ZaP,ZB,h1,hl',g1]|simp (maxSteps:=9^7) (disch:=first|with_reducible assumption|omega) only [dxB]|(simp only [kdB];split)|(simp only [kvB];split))
end Go.Cv
namespace Go.Cv
variable {G : Nat→Option (List AV)} {T : Tbl} {g : Nat}
theorem ZfR (J : Al G T g) (hP : HasK g T) (F : Fm) {a b : Nat} (ha : a < 2 * F.sg) (hb : b < 2 * F.sg) : run G T 376 [.agg [.int .u8 F.u],zA a b] = some (.int .u64 (uN F (a,b) : Int)):=by
 rw [Zac G T hP.ZfR]
 have m1:=ZjX J F (md:=4) (by decide) ha hb
 unfold uN
 simp only
 generalize absZ F 4 a b = R at *
 simp only [zA] at *
 repeat' (first|simp (maxSteps:=9^7) only [seval,exC,Zfc,m1]|simp (maxSteps:=9^7) (disch:=first|with_reducible assumption|omega) only [dxB]|(simp only [kdB];split)|(simp only [kvB];split))
theorem ZfS (J : Al G T g) (hP : HasK g T) (F : Fm) {a b : Nat} (ha : a < 2 * F.sg) (hb : b < 2 * F.sg) : run G T 377 [.agg [.int .u8 F.u],.int .u64 (a : Int),.int .u64 (b : Int)] = some (.int .u64 (uA F a b : Int)):=by
 rw [Zac G T hP.ZfS]
 have m1:=ZkY J F (md:=4) (by decide) ha hb
 unfold uA
 generalize addW F 4 a b = R at *
 repeat' (first|simp (maxSteps:=9^7) only [seval,exC,Zfd,m1]|simp (maxSteps:=9^7) (disch:=first|with_reducible assumption|omega) only [dxB]|(simp only [kdB];split)|(simp only [kvB];split))
theorem ZjZ (J : Al G T g) (hP : HasK g T) (F : Fm) {a b : Nat} (ha : a < 2 * F.sg) (hb : b < 2 * F.sg) : run G T 378 [.agg [.int .u8 F.u],.int .u64 (a : Int),.int .u64 (b : Int)] = some (.int .u64 (uM F a b : Int)):=by
 rw [Zac G T hP.ZjZ]
 have m1:=Zpq J F (md:=4) (by decide) ha hb
 unfold uM
 generalize mulW2 F 4 a b = R at *
 repeat' (first|simp (maxSteps:=9^7) only [seval,exC,Zfe,m1]|simp (maxSteps:=9^7) (disch:=first|with_reducible assumption|omega) only [dxB]|(simp only [kdB];split)|(simp only [kvB];split))
theorem Zif (J : Al G T g) (hP : HasK g T) (F : Fm) {w : Nat} (hw : w < 2 * F.sg) : run G T 379 [.agg [.int .u8 F.u],.int .u64 (w : Int)] = some (.int .u64 (uS F w : Int)):=by
 rw [Zac G T hP.Zif]
 have hF:=Zak F
 have m1:=Zlm J hP F (md:=4) (by decide) hw (n := -(F.fr + 1 : Nat)) (by omega)
 unfold uS
 generalize scaW F 4 w (-(F.fr + 1 : Nat)) = R at *
 have w1 : IntKind.i64.wrap (0 - 24) = -24:=rfl
 have w2 : IntKind.i64.wrap (0 - 53) = -53:=rfl
 cases F
 ·rw [show -((Fm.s.fr + 1 : Nat) : Int) = -24 from rfl] at m1
  simp only [Fm.u] at *
  repeat' (first|simp (maxSteps:=9^7) only [seval,exC,Zcd,w1,m1]|simp (maxSteps:=9^7) (disch:=first|with_reducible assumption|omega) only [dxB]|(simp only [kdB];split)|(simp only [kvB];split))
 ·rw [show -((Fm.d.fr + 1 : Nat) : Int) = -53 from rfl] at m1
  simp only [Fm.u] at *
  repeat' (first|simp (maxSteps:=9^7) only [seval,exC,Zcd,w2,m1]|simp (maxSteps:=9^7) (disch:=first|with_reducible assumption|omega) only [dxB]|(simp only [kdB];split)|(simp only [kvB];split))
theorem Zpa (e : Env) (h : Heap) : evL G T ZeL e h = kS G T (evL G T Zbd (keepE [0,9,10,11] e) h) ZeL:=Zae G T rfl e h
section
variable (x y z : AV) (k : IntKind)
theorem Zyi : iaddrV 1 (.imm 3 [x,y,z]) (.int k 0) = some (.iptr [x,y,z] 0):=rfl
theorem Zyj : iaddrV 1 (.imm 3 [x,y,z]) (.int k 1) = some (.iptr [x,y,z] 1):=rfl
theorem Zyk : iaddrV 1 (.imm 3 [x,y,z]) (.int k 2) = some (.iptr [x,y,z] 2):=rfl
end
theorem Zos {F : Fm} {w : Nat} : F.fin w↔¬ 4≤F.cls w:=by have:=ZcE F w; rw [Zat]; omega
set_option maxHeartbeats 4000000 in
theorem Zqs (J : Al G T g) (hP : HasK g T) (F : Fm) {a b c : Nat} (ha : a < 2 * F.sg) (hb : b < 2 * F.sg) (hc : c < 2 * F.sg) : run G T 380 [.int .u8 F.u,.imm 3 [.int .u64 (a : Int),.int .u64 (b : Int),.int .u64 (c : Int)]] = some (.bool (decide (F.fin a∧F.fin b∧F.fin c))):=by
 rw [Zac G T hP.poly_finite]
 have c1:=Zba J F ha
 have c2:=Zba J F hb
 have c3:=Zba J F hc
 have e1:=Zos (F:=F) (w:=a)
 have e2:=Zos (F:=F) (w:=b)
 have e3:=Zos (F:=F) (w:=c)
 generalize F.cls a = x at *
 generalize F.cls b = y at *
 generalize F.cls c = z at *
 by_cases h1 : 4≤x
 ·rw [decide_eq_false (fun q => e1.1 q.1 h1)]
  repeat' (first|simp (maxSteps:=9^7) only [seval,exC,ZbG,Zpa,Zbd,Zyi,Zyj,Zyk,rp_0,rp_1,rp_2,c1,h1,wr_1,wr1,wr_2,wr2,wr_3,wr3]|simp (maxSteps:=9^7) (disch:=first|with_reducible assumption|omega) only [dxB]|(simp only [kdB];split)|(simp only [kvB];split))
 ·by_cases h2 : 4≤y
  ·rw [decide_eq_false (fun q => e2.1 q.2.1 h2)]
   repeat' (first|simp (maxSteps:=9^7) only [seval,exC,ZbG,Zpa,Zbd,Zyi,Zyj,Zyk,rp_0,rp_1,rp_2,c1,h1,c2,h2,wr_1,wr1,wr_2,wr2,wr_3,wr3]|simp (maxSteps:=9^7) (disch:=first|with_reducible assumption|omega) only [dxB]|(simp only [kdB];split)|(simp only [kvB];split))
  ·by_cases h3 : 4≤z
   ·rw [decide_eq_false (fun q => e3.1 q.2.2 h3)]
    repeat' (first|simp (maxSteps:=9^7) only [seval,exC,ZbG,Zpa,Zbd,Zyi,Zyj,Zyk,rp_0,rp_1,rp_2,c1,h1,c2,h2,c3,h3,wr_1,wr1,wr_2,wr2,wr_3,wr3]|simp (maxSteps:=9^7) (disch:=first|with_reducible assumption|omega) only [dxB]|(simp only [kdB];split)|(simp only [kvB];split))
   ·rw [decide_eq_true ⟨e1.2 h1,e2.2 h2,e3.2 h3⟩]
    repeat' (first|simp (maxSteps:=9^7) only [seval,exC,ZbG,Zpa,Zbd,Zyi,Zyj,Zyk,rp_0,rp_1,rp_2,c1,h1,c2,h2,c3,h3,wr_1,wr1,wr_2,wr2,wr_3,wr3]|simp (maxSteps:=9^7) (disch:=first|with_reducible assumption|omega) only [dxB]|(simp only [kdB];split)|(simp only [kvB];split))
theorem ZBL (F : Fm) (z : Nat × Nat) {l : List (Nat × Nat)} {j : Nat} (h : j + 1 < l.length) : pE F z (l.drop j) = stE F z (pE F z (l.drop (j + 1))) (zc l j):=by
 rw [ZgS (show j < l.length by omega),ZgS h]; rfl
theorem ZwQ (e : Env) (h : Heap) : evL G T Zea e h = kS G T (evL G T ZdZ (keepE [0,1,5,6,9,10,11,12,13] e) h) Zea:=Zae G T rfl e h
def zB (p : Nat × Nat) : Blk:=⟨[.int .u64 (p.1 : Int),.int .u64 (p.2 : Int)],false⟩
set_option maxHeartbeats 16000000 in
theorem ZjL (J : Al G T g) (hP : HasK g T) (F : Fm) {l : List (Nat × Nat)} {z : Bool} {p : Nat × Nat} {B : Blk} (hl : l.length≤41) (hw : Zws F l) (hp : Zw F p) : ∀ (j : Nat) (bs : List Blk),j < l.length →
  ∃ bs',evL G T Zea [(0,.int .u8 F.u),(1,ZL z l),(5,.ptr 0 0),(6,.ptr 1 0),(9,.ptr 2 0),(10,.int .u64 (uN F p : Int)),(11,.int .u64 ((pE F p (l.drop j)).2 : Int)),(12,.ptr 3 0),(13,.int .i64 ((j : Int) - 1))]
    ⟨zB p :: B :: ⟨[.int .u8 F.u],false⟩ :: zB (pE F p (l.drop j)).1 :: bs,[]⟩ =
   some (.exit 0,[(0,.int .u8 F.u),(1,ZL z l),(5,.ptr 0 0),(6,.ptr 1 0),(9,.ptr 2 0),(10,.int .u64 (uN F p : Int)),(11,.int .u64 ((pE F p l).2 : Int)),(12,.ptr 3 0),(13,.int .i64 (-1)),(45,.bool false)],⟨zB p :: B :: ⟨[.int .u8 F.u],false⟩ :: zB (pE F p l).1 :: bs',[]⟩)
 | 0,bs,_ => by
  refine ⟨bs,?_⟩
  rw [List.drop_zero,ZwQ]
  generalize pE F p l = s at *
  generalize uN F p = r at *
  simp only [zB]
  repeat' (first|simp (maxSteps:=9^7) only [seval,exC,ZdZ,cast0,Int.zero_sub]|simp (maxSteps:=9^7) (disch:=first|with_reducible assumption|omega) only [dxB]|(simp only [kdB];split)|(simp only [kvB];split))
 | j + 1,bs,hj => by
  have hjl : j < l.length:=by omega
  have ih:=ZjL J hP F (z:=z) (p:=p) (B:=B) hl hw hp j
  have wa:=hw _ (Zog hjl)
  have ws:=pE_w F p (l.drop (j + 1)) (fun a ha => hw a (List.mem_of_mem_drop ha))
  have hs:=ZBL F p hj
  rw [hs] at ih
  have wp:=zM_w F (pE F p (l.drop (j + 1))).1 p
  have wq:=zP_w F (zM F (pE F p (l.drop (j + 1))).1 p) (zc l j)
  have m1:=ZmM J F (md:=1) (by decide) ws.1.1 ws.1.2 hp.1 hp.2
  have m2:=ZmL J F (md:=1) (by decide) wp.1 wp.2 wa.1 wa.2
  have l2:=Zpy F p
  have u1:=ZjZ J hP F ws.2 l2
  have u2:=ZfR J hP F wp.1 wp.2
  have u3:=ZfR J hP F wq.1 wq.2
  have u4:=ZfS J hP F (Zpy F (zM F (pE F p (l.drop (j + 1))).1 p)) (Zpy F (zP F (zM F (pE F p (l.drop (j + 1))).1 p) (zc l j)))
  have l3 : uA F (uN F (zM F (pE F p (l.drop (j + 1))).1 p)) (uN F (zP F (zM F (pE F p (l.drop (j + 1))).1 p) (zc l j))) < 2 * F.sg:=ZjQ F (by decide)
  have u5:=Zif J hP F l3
  have l4 : uS F (uA F (uN F (zM F (pE F p (l.drop (j + 1))).1 p)) (uN F (zP F (zM F (pE F p (l.drop (j + 1))).1 p) (zc l j)))) < 2 * F.sg:=Zxh F (by decide) l3 _
  have u6:=ZfS J hP F l4 (ZxC F).1
  have u7:=ZfS J hP F (a:=uM F (pE F p (l.drop (j + 1))).2 (uN F p)) (b:=uA F (uS F (uA F (uN F (zM F (pE F p (l.drop (j + 1))).1 p)) (uN F (zP F (zM F (pE F p (l.drop (j + 1))).1 p) (zc l j))))) 2) (Zwz F (by decide)) (ZjQ F (by decide))
  have t1 : ((j : Int)).toNat = j:=Int.toNat_natCast j
  have e1 : ((j + 1 : Nat) : Int) - 1 = j:=by omega
  have j0 : 0≤(j : Int):=by omega
  have w1 : IntKind.i64.wrap ((j : Int) - 1) = (j : Int) - 1:=Zad (by omega)
  have ia:=Zlp (z:=z) (l:=l) (k:=.i64) (j:=(j : Int)) ⟨by omega,by omega⟩
  rw [t1] at ia
  have rd:=fun mm => rd_Z (G:=G) mm hjl
  rw [e1,ZwQ]
  unfold stE at ih
  have mZ : zM F (pE F p (l.drop (j + 1))).1 p = ((mulZ F 1 (pE F p (l.drop (j + 1))).1.1 (pE F p (l.drop (j + 1))).1.2 p.1 p.2).1.1,(mulZ F 1 (pE F p (l.drop (j + 1))).1.1 (pE F p (l.drop (j + 1))).1.2 p.1 p.2).2.1):=rfl
  generalize mulZ F 1 (pE F p (l.drop (j + 1))).1.1 (pE F p (l.drop (j + 1))).1.2 p.1 p.2 = M at *
  have mP : zP F (zM F (pE F p (l.drop (j + 1))).1 p) (zc l j) = ((addW F 1 (zM F (pE F p (l.drop (j + 1))).1 p).1 (zc l j).1).1,(addW F 1 (zM F (pE F p (l.drop (j + 1))).1 p).2 (zc l j).2).1):=rfl
  generalize addW F 1 (zM F (pE F p (l.drop (j + 1))).1 p).1 (zc l j).1 = A1 at *
  generalize addW F 1 (zM F (pE F p (l.drop (j + 1))).1 p).2 (zc l j).2 = A2 at *
  generalize zP F (zM F (pE F p (l.drop (j + 1))).1 p) (zc l j) = q at *
  generalize zM F (pE F p (l.drop (j + 1))).1 p = pp at *
  subst mZ mP
  generalize pE F p (l.drop (j + 1)) = s at *
  generalize zc l j = a at *
  generalize uA F (uM F s.2 (uN F p)) (uA F (uS F (uA F (uN F (M.1.1,M.2.1)) (uN F (A1.1,A2.1)))) 2) = V7 at *
  generalize uA F (uS F (uA F (uN F (M.1.1,M.2.1)) (uN F (A1.1,A2.1)))) 2 = V6 at *
  generalize uS F (uA F (uN F (M.1.1,M.2.1)) (uN F (A1.1,A2.1))) = V5 at *
  generalize uA F (uN F (M.1.1,M.2.1)) (uN F (A1.1,A2.1)) = V4 at *
  generalize uM F s.2 (uN F p) = V1 at *
  generalize uN F (M.1.1,M.2.1) = V2 at *
  generalize uN F (A1.1,A2.1) = V3 at *
  generalize uN F p = r at *
  clear l2 l3 l4 wp wq ws wa hs
  obtain ⟨bs',ih⟩:=ih (bs ++ [⟨[.int .u64 (M.1.1 : Int),.int .u64 (M.2.1 : Int),.int .u8 (M.1.2 : Int),.int .u8 (M.2.2 : Int)],false⟩,⟨[.int .u64 (A1.1 : Int),.int .u64 (A2.1 : Int),.int .u8 (A1.2 : Int),.int .u8 (A2.2 : Int)],false⟩]) hjl
  refine ⟨bs',?_⟩
  rw [← ih]
  simp only [zB,zA,zrA,Int.cast_ofNat_Int] at *
  repeat' (first|simp (maxSteps:=9^7) only [seval,exC,ZdZ,j0,m1,m2,u1,u2,u3,u4,u5,u6,u7,ia,rd,gaB,ZB,w1]|simp (maxSteps:=9^7) (disch:=first|with_reducible assumption|omega) only [dxB]|(simp only [kdB];split)|(simp only [kvB];split))
end Go.Cv
namespace Go.Cv
variable {G : Nat→Option (List AV)} {T : Tbl} {g : Nat}
def vlA (y : Nat × Nat) (b : Nat) : AV:=.agg [.int .u64 (y.1 : Int),.int .u64 (y.2 : Int),.int .u64 (b : Int)]
noncomputable def evE (F : Fm) (p : Nat × Nat) (l : List (Nat × Nat)) : (Nat × Nat) × Nat:=if l = [] then ((0,0),0) else ((pE F p l).1,bdE F (pE F p l))
theorem Zwm {l : List (Nat × Nat)} {n : Nat} (h : l.length = n + 1) : l.drop n = [zc l n]:=by rw [ZgS (by omega),List.drop_eq_nil_of_le (by omega)]
set_option maxHeartbeats 16000000 in
theorem ZkK (J : Al G T g) (hP : HasK g T) (F : Fm) {l : List (Nat × Nat)} {z : Bool} {a b : Nat} (h64 : W64 l) (ha : a < 18446744073709551616) (hb : b < 18446744073709551616) (h : opC F l (a,b) = 0) (hl : ¬ 41 < l.length) (hw : Zws F l) (hp : Zw F (a,b)) :
  run G T 342 [.int .u8 F.u,ZL z l,zA a b] = some (.tup [vlA (evE F (a,b) l).1 (evE F (a,b) l).2,.int .i64 0]):=by
 rw [Zac G T hP.ZkK]
 have o1:=Znh J hP F (z:=z) h64 ha hb
 rw [h] at o1
 unfold evE
 by_cases h0 : l = []
 ·rw [if_pos h0]
  have hn : (l.length : Int) = 0:=by rw [h0]; rfl
  simp only [zA,vlA,cast0] at *
  repeat' (first|simp (maxSteps:=9^7) only [seval,exC,ZdL,ZB,o1,hn]|simp (maxSteps:=9^7) (disch:=first|with_reducible assumption|omega) only [dxB]|(simp only [kdB];split)|(simp only [kvB];split))
 ·rw [if_neg h0]
  obtain ⟨n,hln⟩ : ∃ n,l.length = n + 1:=⟨l.length - 1,by have : l.length≠0:=fun q => h0 (List.length_eq_zero_iff.1 q); omega⟩
  have hn : ¬ (l.length : Int) = 0:=by omega
  have w1 : IntKind.i64.wrap ((l.length : Int) - 1) = (n : Int):=by rw [Zad (by omega)]; omega
  have w2 : IntKind.i64.wrap ((l.length : Int) - 2) = (n : Int) - 1:=by rw [Zad (by omega)]; omega
  have t1 : ((n : Int)).toNat = n:=Int.toNat_natCast n
  have ia:=Zlp (z:=z) (l:=l) (k:=.i64) (j:=(n : Int)) ⟨by omega,by omega⟩
  rw [t1] at ia
  have rd:=fun mm => rd_Z (G:=G) mm (show n < l.length by omega)
  have u1:=ZfR J hP F hp.1 hp.2
  obtain ⟨bs,lp⟩:=ZjL J hP F (z:=z) (p:=(a,b)) (B:=⟨[.int .u64 0,.int .u64 0,.int .u64 0],false⟩) (by omega) hw hp n [] (by omega)
  rw [Zwm hln] at lp
  rw [show pE F (a,b) [zc l n] = (zc l n,0) from rfl] at lp
  have ws:=pE_w F (a,b) l hw
  have f1:=Zqs J hP F ws.1.1 ws.1.2 ws.2
  have i1:=Zin J F (n:=false)
  unfold bdE
  generalize pE F (a,b) l = s at *
  generalize zc l n = c at *
  generalize uN F (a,b) = r at *
  generalize F.inf false = inf at *
  simp only [zB,zA,vlA,cast0] at *
  by_cases hf : F.fin s.1.1∧F.fin s.1.2∧F.fin s.2
  ·rw [decide_eq_true hf] at f1
   rw [if_pos hf]
   repeat' (first|simp (maxSteps:=9^7) only [seval,exC,ZdL,gaB,ZB,ZjG,ZAk,o1,hn,u1,w1,w2,ia,rd,lp,f1]|simp (maxSteps:=9^7) (disch:=first|with_reducible assumption|omega) only [dxB]|(simp only [kdB];split)|(simp only [kvB];split))
  ·rw [decide_eq_false hf] at f1
   rw [if_neg hf]
   repeat' (first|simp (maxSteps:=9^7) only [seval,exC,ZdL,gaB,ZB,ZjG,ZAk,o1,hn,u1,w1,w2,ia,rd,lp,f1,i1]|simp (maxSteps:=9^7) (disch:=first|with_reducible assumption|omega) only [dxB]|(simp only [kdB];split)|(simp only [kvB];split))
def Tb (d : Dy) (W E : Nat) : Prop:=d.m≠0→(-(E : Int)≤d.e∧d.e + blen d.m≤W)
theorem Tb.mono {d : Dy} {W E W' E' : Nat} (h : Tb d W E) (h1 : W≤W') (h2 : E≤E') : Tb d W' E':=fun h0 => by have:=h h0; omega
theorem ZxN (F : Fm) (w : Nat) : Tb (F.vl w) 1024 1074:=fun h1 => by
 have hF:=Zak F
 have fa : F.fin w:=by
  by_cases h : F.fin w
  ·exact h
  ·exfalso; apply h1; unfold Fm.vl; rw [if_neg h]
 have e1:=Zgz F fa (by rw [← ZbA fa]; exact h1)
 rw [← ZbA fa] at e1
 obtain ⟨_,a1,a2,a3⟩:=e1
 omega
theorem ZnM {a b : Dy} {W E W' E' : Nat} (na : Nz a) (nb : Nz b) (ha : Tb a W E) (hb : Tb b W' E') : Tb (mulD a b) (W + W') (E + E'):=fun h0 => by
 have h1 : a.m≠0:=fun q => h0 (by rw [Zid (Or.inl q)])
 have h2 : b.m≠0:=fun q => h0 (by rw [Zid (Or.inr q)])
 have:=ha h1
 have:=hb h2
 have hbl:=ZpI (Nat.le_refl (blen a.m)) (Nat.le_refl (blen b.m))
 rw [ZAa na nb h1 h2]
 simp only
 omega
theorem Zzf {d : Dy} {W E : Nat} (h : Tb d W E) : (iv d (-(E : Int))).natAbs < 2 ^ (W + E)∧LoE d (-(E : Int)):=by
 by_cases h0 : d.m = 0
 ·rw [Zah h0]; exact ⟨Nat.two_pow_pos _,Or.inl h0⟩
 ·obtain ⟨h1,h2⟩:=h h0
  refine ⟨?_,Or.inr h1⟩
  have e : (iv d (-(E : Int))).natAbs = d.m * 2 ^ (d.e - -(E : Int)).toNat:=by
   rcases Zma d (-(E : Int)) with ⟨q,_⟩ | ⟨q,_⟩ <;> rw [q]
   ·exact Int.natAbs_natCast _
   ·rw [Int.natAbs_neg]; exact Int.natAbs_natCast _
  rw [e]
  refine Zaf.1 ?_
  rw [Zam h0]
  omega
theorem ZEC {d : Dy} {W E : Nat} (hl : LoE d (-(E : Int))) (h : (iv d (-(E : Int))).natAbs < 2 ^ (W + E)) : Tb d W E:=fun h0 => by
 have h1:=ZiG hl h0
 have e : (iv d (-(E : Int))).natAbs = d.m * 2 ^ (d.e - -(E : Int)).toNat:=by
  rcases Zma d (-(E : Int)) with ⟨q,_⟩ | ⟨q,_⟩ <;> rw [q]
  ·exact Int.natAbs_natCast _
  ·rw [Int.natAbs_neg]; exact Int.natAbs_natCast _
 rw [e] at h
 have h2:=Zaf.2 h
 rw [Zam h0] at h2
 exact ⟨h1,by omega⟩
theorem ZuQ {a b : Dy} {W E : Nat} (ha : Tb a W E) (hb : Tb b W E) : Tb (addD a b) (W + 1) E:=by
 obtain ⟨a1,a2⟩:=Zzf ha
 obtain ⟨b1,b2⟩:=Zzf hb
 obtain ⟨i1,l1⟩:=Zbx a2 b2
 refine ZEC l1 ?_
 rw [i1,show W + 1 + E = (W + E) + 1 by omega,Nat.pow_succ]
 have:=Int.natAbs_add_le (iv a (-(E : Int))) (iv b (-(E : Int)))
 omega
theorem ZpF {d : Dy} {W E : Nat} (h : Tb d W E) (nz : Nz d) : Bd d (W + E):=by
 by_cases h0 : d.m = 0
 ·rw [nz.1 h0]; exact ⟨by simp only [Zai]; omega,by simp only; omega,by simp only; omega⟩
 ·obtain ⟨h1,h2⟩:=h h0
  exact ⟨by omega,by omega,by omega⟩
theorem Zov {d : Dy} {K : Nat} (h : Bd d K) (hK : K≤1073741824) : (dl d.m).length < 1073741824:=by
 have:=Zaa d.m
 have:=h.bl
 omega
theorem Zmk (J : Al G T g) {z y : Bool} {a b : Dy} (ha : Bd a 1000000) (hb : Bd b 1000000) : ∃ z',run G T 154 [DyA z a,DyA y b] = some (DyA z' (mulD a b)) :=
 ZiV J (z:=z) (y:=y) (Zov ha (by decide)) (Zov hb (by decide)) (by have:=ha.lo; have:=ha.hi; omega) (by have:=hb.lo; have:=hb.hi; omega)
def dB (z : Bool) (d : Dy) : Blk:=⟨[.bool d.n,D z (dl d.m),.int .i64 d.e],false⟩
theorem ZnJ (J : Al G T g) (hP : HasK g T) {f : Int} (h : ¬ (f = 1∨f = 2)) {z : Bool} {l : List (Nat × Nat)} {a b : Nat} : run G T 344 [.int .u8 f,ZL z l,zA a b] = some (.int .i64 4):=by
 rw [Zac G T hP.Zih]
 have h1:=Zmj J (f:=f)
 rw [decide_eq_false h] at h1
 simp only [zA]
 repeat' (first|simp (maxSteps:=9^7) only [seval,exC,ZaP,ZB,h1]|simp (maxSteps:=9^7) (disch:=first|with_reducible assumption|omega) only [dxB]|(simp only [kdB];split)|(simp only [kvB];split))
theorem zopens (J : Al G T g) (hP : HasK g T) {f : Int} {z : Bool} {l : List (Nat × Nat)} {a b : Nat} (h64 : W64 l) (ha : a < 18446744073709551616) (hb : b < 18446744073709551616) :
  (∃ e,e≠0∧run G T 344 [.int .u8 f,ZL z l,zA a b] = some (.int .i64 e)) ∨
  (∃ F,f = Fm.u F∧run G T 344 [.int .u8 f,ZL z l,zA a b] = some (.int .i64 0)∧opC F l (a,b) = 0∧¬ 41 < l.length∧Zws F l∧Zw F (a,b)∧Zfs F l∧Zf F (a,b)):=by
 by_cases hf : f = 1∨f = 2
 ·obtain ⟨F,rfl⟩:=ZET hf
  have o:=Zih J hP F (z:=z) h64 ha hb
  by_cases h1 : 41 < l.length
  ·rw [ZoY (F:=F) (p:=(a,b)) h1] at o; exact Or.inl ⟨3,by decide,o⟩
  ·by_cases h2 : Zws F l∧Zw F (a,b)
   ·by_cases h3 : Zfs F l∧Zf F (a,b)
    ·have e:=ZsZ h1 h2 h3
     rw [e] at o
     exact Or.inr ⟨F,rfl,o,e,h1,h2.1,h2.2,h3.1,h3.2⟩
    ·rw [Zmg h1 h2 h3] at o; exact Or.inl ⟨7,by decide,o⟩
   ·rw [ZkH h1 h2] at o; exact Or.inl ⟨6,by decide,o⟩
 ·exact Or.inl ⟨4,by decide,ZnJ J hP hf⟩
theorem Zvb (F : Fm) (s : (Nat × Nat) × Nat) (hs : s.2 < 2 * F.sg) : bdE F s < 2 * F.sg∧F.cls (bdE F s)≠5∧(F.fin (bdE F s)→(F.fin s.1.1∧F.fin s.1.2∧F.fin s.2)∧bdE F s = s.2)∧(¬ F.fin (bdE F s)→bdE F s = F.inf false):=by
 unfold bdE
 by_cases h : F.fin s.1.1∧F.fin s.1.2∧F.fin s.2
 ·rw [if_pos h]
  exact ⟨hs,by have:=Zat.1 h.2.2; omega,fun _ => ⟨h,rfl⟩,fun q => absurd h.2.2 q⟩
 ·rw [if_neg h]
  exact ⟨ZlN F _,by rw [Zot]; decide,fun q => absurd q (Zlq F _),fun _ => rfl⟩
theorem ZDi {X r : Nat} (h1 : r * r≤X) (h2 : X < (r + 1) * (r + 1)) : isq X = r:=by
 obtain ⟨k1,k2⟩:=Zic X
 have a : isq X < r + 1:=Nat.lt_of_not_le fun h => absurd (Nat.le_trans (Nat.mul_le_mul h h) k1) (by omega)
 have b : r < isq X + 1:=Nat.lt_of_not_le fun h => absurd (Nat.le_trans (Nat.mul_le_mul h h) h1) (by omega)
 omega
def uNk (F : Fm) (p : Nat × Nat) (r w : Nat) : Bool :=
 let d:=sqD F p.1 p.2
 let X:=d.m * 2 ^ rootP d.e
 decide (zcl (F.cls p.1) (F.cls p.2)≠3) && decide (zcl (F.cls p.1) (F.cls p.2)≠4) && decide (d.m≠0) && decide (r * r≤X) && decide (X < (r + 1) * (r + 1)) && decide ((sW F 4 false r (!decide (r * r = X)) ((d.e - (rootP d.e : Nat)) / 2)).1 = w)
theorem uN_k {F : Fm} {p : Nat × Nat} {r w : Nat} (h : uNk F p r w = true) : uN F p = w:=by
 simp only [uNk,Bool.and_eq_true,decide_eq_true_eq] at h
 obtain ⟨⟨⟨⟨⟨h1,h2⟩,h3⟩,h4⟩,h5⟩,h6⟩:=h
 unfold uN absZ toldW rtW rootW
 rw [if_neg h1,if_neg h2,if_neg h3,ZDi h4 h5]
 exact h6
theorem ZvJ : evE .d (4613937818241073152,0) [(4607182418800017408,0),(4611686018427387904,0)] = ((4619567317775286272,0),4384817187198599169):=by
 have z1 : zM .d (4611686018427387904,0) (4613937818241073152,0) = (4618441417868443648,0):=by decide +kernel
 have z2 : zP .d (4618441417868443648,0) (4607182418800017408,0) = (4619567317775286272,0):=by decide +kernel
 have n1 : uN .d (4613937818241073152,0) = 4613937818241073152:=uN_k (r:=110680464442257309696) (by decide +kernel)
 have n2 : uN .d (4618441417868443648,0) = 4618441417868443648:=uN_k (r:=110680464442257309696) (by decide +kernel)
 have n3 : uN .d (4619567317775286272,0) = 4619567317775286272:=uN_k (r:=258254417031933722624) (by decide +kernel)
 have p1 : pE .d (4613937818241073152,0) [(4607182418800017408,0),(4611686018427387904,0)] = ((4619567317775286272,0),4384817187198599169):=by
  simp only [pE,stE,z1,z2,n1,n2,n3,Prod.mk.injEq,true_and]
  decide +kernel
 unfold evE bdE
 rw [p1,if_neg (by simp),if_pos (by decide +kernel)]
theorem ZEu (a b c a' b' c' : Int) : eqsA false [false,false,false] (.agg [.int .u64 a,.int .u64 b,.int .u64 c]) (.agg [.int .u64 a',.int .u64 b',.int .u64 c']) = some (.bool (decide (a = a'∧b = b'∧c = c'))):=by
 simp [eqsA,kindsA,eqCells,Bool.decide_and]
 all_goals rfl
theorem ZmT (J : Al G T g) (hP : HasK g T) : run G T 345 [] = some (.bool true):=by
 rw [Zac G T hP.ZmT]
 have e:=ZkK J hP .d (z:=false) (l:=[(4607182418800017408,0),(4611686018427387904,0)]) (a:=4613937818241073152) (b:=0) (by intro a ha; simp at ha; rcases ha with rfl | rfl <;> decide) (by decide) (by decide) (ZsZ (by decide) ⟨by intro a ha; simp at ha; rcases ha with rfl | rfl <;> (constructor <;> decide),by constructor <;> decide⟩ ⟨by intro a ha; simp at ha; rcases ha with rfl | rfl <;> (constructor <;> decide),by constructor <;> decide⟩) (by decide) (by intro a ha; simp at ha; rcases ha with rfl | rfl <;> (constructor <;> decide)) (by constructor <;> decide)
 rw [ZvJ] at e
 have e' : run G T 342 [.int .u8 2,.imm 2 [.int .u64 4607182418800017408,.int .u64 0,.int .u64 4611686018427387904,.int .u64 0],.agg [.int .u64 4613937818241073152,.int .u64 0]] = some (.tup [.agg [.int .u64 4619567317775286272,.int .u64 0,.int .u64 4384817187198599169],.int .i64 0]):=e
 clear e
 repeat' (first|simp (maxSteps:=9^7) only [seval,exC,ZeT,ZlC,ZgD,e',ZEi,ZEu ]|simp (maxSteps:=9^7) (disch:=first|with_reducible assumption|omega) only [dxB,decide]|(simp only [kdB];split)|(simp only [kvB];split))
theorem ZoN (n : Nat) : intD (n : Int) = mkD false n 0:=by
 unfold intD; rw [decide_eq_false (by omega),Int.natAbs_natCast]
theorem ZyU {n : Nat} (h : n≤41) (h0 : n≠0) : tz n≤5:=by
 have hs:=(ZdW h0).1
 rcases Nat.lt_or_ge 5 (tz n) with q | q
 ·exfalso
  have h2 : 2 ^ 6≤2 ^ tz n:=Nat.pow_le_pow_right (by decide) q
  have h3 : n / 2 ^ tz n≠0:=fun q0 => by rw [q0,Nat.zero_mul] at hs; exact h0 hs
  have h4 : 1 * 2 ^ tz n≤n / 2 ^ tz n * 2 ^ tz n:=Nat.mul_le_mul_right _ (Nat.pos_of_ne_zero h3)
  rw [Nat.one_mul] at h4
  have h5 : 2 ^ 6≤n:=Nat.le_trans (Nat.le_trans h2 h4) (Nat.le_of_eq hs.symm)
  omega
 ·exact q
theorem Zow (J : Al G T g) {n : Nat} (h : n≤41) : ∃ z,run G T 272 [.int .i64 (n : Int)] = some (DyA z (intD (n : Int))):=by
 rw [Zac G T J.J.Zow,ZoN]
 obtain ⟨z1,r1⟩:=Znc J (n:=n) (by omega)
 have hb : blen n≤6:=Zaf.2 (by rw [show (2 : Nat) ^ 6 = 64 from rfl]; omega)
 have ht : n = 0∨(-16777216≤(0 : Int) + tz n∧(0 : Int) + tz n≤16777216):=by
  by_cases h0 : n = 0
  ·exact Or.inl h0
  ·have:=ZyU h h0
   right; omega
 obtain ⟨z2,r2⟩:=Zbv J (n:=false) (z:=z1) (a:=n) (e:=0) (Zal (by omega)) ht (by omega)
 refine ⟨z2,?_⟩
 have w1 : (n : Int) % 18446744073709551616 = (n : Int):=by omega
 have w0 : ¬ (n : Int) < 0:=by omega
 generalize mkD false n 0 = d at *
 generalize dl n = l at *
 generalize (n : Int) = m at *
 simp only [DyA,A3] at *
 repeat' (first|simp (maxSteps:=9^7) only [seval,exC,ZgY,w1,w0,r1,r2]|simp (maxSteps:=9^7) (disch:=first|with_reducible assumption|omega) only [dxB]|(simp only [kdB];split)|(simp only [kvB];split))
def fk : Fm→FloatKind
 | .s => .f32
 | .d => .f64
theorem Zys {n : Bool} {m : Nat} {e : Int} : (mkD n m e).m = 0↔m = 0:=by
 by_cases h : m = 0
 ·subst h; rw [ZgA]
 ·constructor
  ·intro q
   have:=Zrs (n:=n) h (Int.le_refl e)
   rw [q,Nat.zero_mul] at this
   have:=Nat.mul_pos (Nat.pos_of_ne_zero h) (Nat.two_pow_pos (e - e).toNat)
   omega
  ·intro q; exact absurd q h
def Fm.wlo : Fm→Nat
 | .s => 107
 | .d => 823
def Fm.whi : Fm→Nat
 | .s => 147
 | .d => 1223
def inW (F : Fm) (w : Nat) : Prop:=F.wlo≤F.ex w∧F.ex w≤F.whi
instance (F : Fm) (w : Nat) : Decidable (inW F w):=inferInstanceAs (Decidable (_∧_))
theorem f311 (x y z : AV) : fieldA false 1 1 (.agg [x,y,z]) = some y:=rfl
end Go.Cv
namespace Go.Cv
variable {G : Nat→Option (List AV)} {T : Tbl} {g : Nat}
section
variable (F : CallF) (d : Option Nat) (os : List IOper) (e : Env) (h : Heap)
end
section
variable (hL : HasL g T)
 include hL
end
end Go.Cv
namespace Go.Cv
variable {G : Nat→Option (List AV)} {T : Tbl} {g : Nat}
instance (F : Fm) (a : Nat × Nat) : Decidable (Zw F a):=inferInstanceAs (Decidable (_∧_))
instance (F : Fm) (l : List (Nat × Nat)) : Decidable (Zws F l):=inferInstanceAs (Decidable (∀ c ∈ l,Zw F c))
def inZ (F : Fm) (a : Nat × Nat) : Prop:=inW F a.1∧inW F a.2
instance (F : Fm) (a : Nat × Nat) : Decidable (inZ F a):=inferInstanceAs (Decidable (_∧_))
def inZs (F : Fm) (l : List (Nat × Nat)) : Prop:=∀ c ∈ l,inZ F c
instance (F : Fm) (l : List (Nat × Nat)) : Decidable (inZs F l):=inferInstanceAs (Decidable (∀ c ∈ l,inZ F c))
end Go.Cv
namespace Go.Cv
variable {G : Nat→Option (List AV)} {T : Tbl} {g : Nat}
section
variable {α : Type} (bs L : List α) (v : α)
end
end Go.Cv
namespace Go.Cv
variable {G : Nat→Option (List AV)} {T : Tbl} {g : Nat}
section
variable (J : Al G T g) (hM : HasM g T) (hL : HasL g T) (F : Fm)
 include J hM hL
end
end Go.Cv
namespace Go.Cv
variable {G : Nat→Option (List AV)} {T : Tbl} {g : Nat}
def Rl (U : Nat) (n r : Int) : Prop:=U * (n - r).natAbs≤n.natAbs
def F1 (F : Fm) : Nat:=2 ^ (F.fr + 1)
theorem ZAV (F : Fm) : 16777216≤F1 F:=by cases F <;> decide
def Fm.sh (F : Fm) : Nat:=(-F.low).toNat
def Fm.lo (F : Fm) : Nat:=F.fr + F.wlo - 1
def Fm.hi (F : Fm) : Nat:=F.fr + F.whi
def Fm.pl (F : Fm) : Nat:=2 * F.lo - F.sh
theorem ZzG {M Q : Nat} (h1 : Q * Q≤M) (h2 : M < (Q + 1) * (Q + 1)) (hM : M≠0) (h0 : Q≠0) : blen M≤2 * blen Q∧2 * blen Q≤blen M + 1:=by
 have q1:=ZaO Q
 have q3 : 2 ^ (blen Q - 1)≤Q:=Zau.1 (by have:=Zbg h0; omega)
 have p1:=Zbg h0
 refine ⟨?_,?_⟩
 ·refine Zaf.2 ?_
  have h3 : (Q + 1) * (Q + 1)≤2 ^ blen Q * 2 ^ blen Q:=Nat.mul_le_mul q1 q1
  rw [← Nat.pow_add,show blen Q + blen Q = 2 * blen Q by omega] at h3
  omega
 ·have h3 : 2 ^ (blen Q - 1) * 2 ^ (blen Q - 1)≤Q * Q:=Nat.mul_le_mul q3 q3
  rw [← Nat.pow_add] at h3
  have h4 : blen Q - 1 + (blen Q - 1) < blen M:=Zau.2 (by omega)
  omega
theorem Rl.scale {U : Nat} {n r : Int} (h : Rl U n r) (S : Int) : Rl U (n * S) (r * S):=by
 unfold Rl at *
 rw [← Int.sub_mul,Int.natAbs_mul,Int.natAbs_mul,← Nat.mul_assoc]
 exact Nat.mul_le_mul_right _ h
theorem Rl.neg {U : Nat} {n r : Int} (h : Rl U n r) : Rl U (-n) (-r):=by
 unfold Rl at *
 rw [show -n - -r = -(n - r) by omega,Int.natAbs_neg,Int.natAbs_neg]; exact h
end Go.Cv
namespace Go.Cv
variable {G : Nat→Option (List AV)} {T : Tbl} {g : Nat}
theorem ZDk (d : Dy) (k L : Int) : iv (shD d k) L = iv d (L - k):=by
 unfold shD
 by_cases h : d.m = 0
 ·rw [Zah h,Zah]
  split
  ·rename_i q; first | rfl | exact h
  ·exact h
 ·first
  | rw [if_neg h]; unfold iv; simp only; congr 4; omega
  | (unfold iv; simp only; congr 4; omega)
theorem ZAX {d : Dy} {k L : Int} (h : LoE d (L - k)) : LoE (shD d k) L:=by
 rcases h with h | h
 ·left; unfold shD; split <;> first | rfl | exact h
 ·unfold shD
  split
  ·exact Or.inl (by first | rfl | assumption)
  ·right; simp only; omega
theorem Zwa (k : Nat) {L : Int} (h : L≤0) : iv (intD (k : Int)) L = ((k * 2 ^ (-L).toNat : Nat) : Int)∧LoE (intD (k : Int)) L:=by
 rw [ZoN]
 refine ⟨?_,ZfA h⟩
 rw [ZlT h,show (0 - L) = -L by omega]; simp
section
variable {F : Fm} {a b c d : Nat} (ha : a < 2 * F.sg) (hb : b < 2 * F.sg) (hc : c < 2 * F.sg) (hd : d < 2 * F.sg) (wa : inW F a) (wb : inW F b) (wc : inW F c) (wd : inW F d)
 include ha hb hc hd wa wb wc wd
end
end Go.Cv
namespace Go.Cv
variable {G : Nat→Option (List AV)} {T : Tbl} {g : Nat}
section
variable (J : Al G T g) (hM : HasM g T) (hL : HasL g T) {F : Fm} {a b c d : Nat} (hz : Zw F (a,b)) (hw : Zw F (c,d)) (iz : inZ F (a,b)) (iw : inZ F (c,d))
 include J hM hL hz hw iz iw
end
end Go.Cv
namespace Go.Cv
variable {G : Nat→Option (List AV)} {T : Tbl} {g : Nat}
theorem ZBs {d : Dy} (h : d.n = false) (L : Int) : iv d L = ((d.m * 2 ^ (d.e - L).toNat : Nat) : Int):=by
 unfold iv; rw [h]; simp
theorem eb {d : Dy} {L : Int} {m : Nat} (h0 : d.m≠0) (hl : LoE d L) (h : iv d L = (m : Int)) : d.e + blen d.m = L + blen m:=by
 have h1:=ZEM d L
 rw [Zam h0,h] at h1
 have h2:=ZiG hl h0
 have h3 : bl (m : Int) = blen m:=rfl
 omega
end Go.Cv
