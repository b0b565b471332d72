/-
 A part of the proof of the statements of this seat (texts that the law's own text leans on): no condition.
-/
import Derived.Test.YtddmoldiopnifaaGreatDoorM15
import Derived.Test.YtddmoldiopnifaaGreatDoorM14
import Derived.Test.YtddmoldiopnifaaGreatDoorM7
set_option linter.unusedVariables false
set_option linter.unusedSimpArgs false
namespace Go.Cv
variable {G : Nat→Option (List AV)} {T : Tbl} {g : Nat}
theorem ZAW (F : Fm) {a b : Nat} {L : Int} (la : LoE (F.vl a) L) (lb : LoE (F.vl b) L) (s : Bool) : LoE (tm F a b s).1 (L + L)∧iv (tm F a b s).1 (L + L) = if s then -(iv (F.vl a) L * iv (F.vl b) L) else iv (F.vl a) L * iv (F.vl b) L:=by
 obtain ⟨m1,m2⟩:=Zcj la lb
 unfold tm
 cases s
 ·exact ⟨m2,m1⟩
 ·exact ⟨ZmX m2,by simp only [if_true]; rw [ZpI,m1]⟩
theorem ZuW (F : Fm) {md : Int} (hm : 1≤md∧md≤5) {X : Dy} {s : Bool} (nX : Nz X) (h : (ptQ F md X s oneD).2 = 0) : F.fin (ptQ F md X s oneD).1∧F.vl (ptQ F md X s oneD).1 = X:=by
 unfold ptQ at h ⊢
 by_cases h0 : X.m = 0
 ·simp only [if_pos h0]
  obtain ⟨_,_,q3,q4⟩:=ZeH F s
  exact ⟨Zas.2 (Or.inl q3),by rw [q4,nX.1 h0]⟩
 ·rw [if_neg h0] at h
  simp only [if_neg h0]
  obtain ⟨f1,_,f3⟩:=ZyP F nX h0 (show oneD.m≠0 by decide) h
  exact ⟨f1,by rw [ZAD (ZfQ F _)] at f3; exact f3.symm⟩
theorem ZuV (F : Fm) {md : Int} (hm : 1≤md∧md≤5) {w : Nat} (hw : w < 2 * F.sg) (hf : F.fin w) {X b : Dy} (nX : Nz X) (nb : Nz b) (hb : b.m≠0) {K L : Int} (lX : LoE X (K + L)) (ld : LoE (F.vl w) K) (lb : LoE b L) (h : iv X (K + L) = iv (F.vl w) K * iv b L) (s : Bool) : (ptQ F md X s b).2 = 0∧Near F (ptQ F md X s b).1 w:=by
 unfold ptQ
 by_cases h0 : (F.vl w).m = 0
 ·have hX : X.m = 0:=ZxY nX lX (by rw [h,ZaP h0,Int.zero_mul])
  simp only [if_pos hX]
  exact ⟨trivial,Or.inr ⟨(ZeH F s).2.2.1,(ZkV hw hf).2 h0⟩⟩
 ·have hX : X.m≠0:=fun q => by
   rw [ZaP q] at h
   rcases Int.mul_eq_zero.1 h.symm with k | k
   ·exact h0 (ZxY (ZfQ F w) ld k)
   ·exact hb (ZxY nb lb k)
  simp only [if_neg hX]
  rw [ZyO F md nX (ZfQ F w) nb h0 hb lX ld lb h,ZAZ F md hw hf h0]
  exact ⟨rfl,Or.inl rfl⟩
theorem back (F : Fm) {md : Int} (hm : 1≤md∧md≤5) {a b c d : Nat} (ha : a < 2 * F.sg) (hb : b < 2 * F.sg) (hc : c < 2 * F.sg) (hd : d < 2 * F.sg) (fa : F.fin a) (fb : F.fin b) (hz : zcl (F.cls c) (F.cls d) = 2) (e1 : (mulR F md a b c d).1.2 = 0) (e2 : (mulR F md a b c d).2.2 = 0) :
  (F.fin (mulR F md a b c d).1.1∧F.fin (mulR F md a b c d).2.1) ∧
  ((divR F md (mulR F md a b c d).1.1 (mulR F md a b c d).2.1 c d).1.2 = 0∧Near F (divR F md (mulR F md a b c d).1.1 (mulR F md a b c d).2.1 c d).1.1 a) ∧
  ((divR F md (mulR F md a b c d).1.1 (mulR F md a b c d).2.1 c d).2.2 = 0∧Near F (divR F md (mulR F md a b c d).1.1 (mulR F md a b c d).2.1 c d).2.1 b):=by
 obtain ⟨fc,fd⟩:=(Zlo F (a:=c) (b:=d)).2 (by omega)
 have hq:=ZGP F hc hd hz
 obtain ⟨p1,v1⟩:=ZuW F hm (ZgX (ZgW F a c false).2 (ZgW F b d true).2) e1
 obtain ⟨p2,v2⟩:=ZuW F hm (ZgX (ZgW F a d false).2 (ZgW F b c false).2) e2
 have la:=ZbK fa
 have lb:=ZbK fb
 have lc:=ZbK fc
 have ld:=ZbK fd
 generalize F.low = L at *
 obtain ⟨x1,y1⟩:=ZAW F la lc false
 obtain ⟨x2,y2⟩:=ZAW F lb ld true
 obtain ⟨x3,y3⟩:=ZAW F la ld false
 obtain ⟨x4,y4⟩:=ZAW F lb lc false
 obtain ⟨i1,l1⟩:=ZdR x1 x2
 obtain ⟨i2,l2⟩:=ZdR x3 x4
 rw [y1,y2] at i1
 rw [y3,y4] at i2
 simp only [Bool.false_eq_true,if_false,if_true] at i1 i2
 have sq:=ZFL F lc ld
 have lsq : LoE (sqD F c d) (L + L):=(ZdR (Zcj lc lc).2 (Zcj ld ld).2).2
 rw [show 2 * L = L + L by omega] at sq
 have P : ∀ {p w : Nat} {X : Dy} {s : Bool},F.vl p = X→LoE X (L + L)→LoE (F.vl w) L→LoE (tm F p w s).1 (L + (L + L))∧iv (tm F p w s).1 (L + (L + L)) = if s then -(iv X (L + L) * iv (F.vl w) L) else iv X (L + L) * iv (F.vl w) L:=fun {p w X s} hp lX lw => by
  obtain ⟨m1,m2⟩:=Zcj lX lw
  rw [show L + L + L = L + (L + L) by omega] at m1 m2
  unfold tm
  rw [hp]
  cases s
  ·exact ⟨m2,m1⟩
  ·exact ⟨ZmX m2,by simp only [if_true]; rw [ZpI,m1]⟩
 refine ⟨⟨p1,p2⟩,?_,?_⟩
 ·obtain ⟨q1,r1⟩:=P (s:=false) v1 l1 lc
  obtain ⟨q2,r2⟩:=P (s:=false) v2 l2 ld
  obtain ⟨i3,l3⟩:=ZdR q1 q2
  refine ZuV F hm ha fa (ZgX (ZgW F _ _ _).2 (ZgW F _ _ _).2) (ZzM F c d) hq l3 la lsq ?_ _
  rw [i3,r1,r2,i1,i2,sq]
  simp only [Bool.false_eq_true,if_false]
  generalize iv (F.vl a) L = x
  generalize iv (F.vl b) L = y
  generalize iv (F.vl c) L = z
  generalize iv (F.vl d) L = w
  grind
 ·obtain ⟨q1,r1⟩:=P (s:=false) v2 l2 lc
  obtain ⟨q2,r2⟩:=P (s:=true) v1 l1 ld
  obtain ⟨i3,l3⟩:=ZdR q1 q2
  refine ZuV F hm hb fb (ZgX (ZgW F _ _ _).2 (ZgW F _ _ _).2) (ZzM F c d) hq l3 lb lsq ?_ _
  rw [i3,r1,r2,i1,i2,sq]
  simp only [Bool.false_eq_true,if_false,if_true]
  generalize iv (F.vl a) L = x
  generalize iv (F.vl b) L = y
  generalize iv (F.vl c) L = z
  generalize iv (F.vl d) L = w
  grind
def intD (n : Int) : Dy:=mkD (decide (n < 0)) n.natAbs 0
theorem ZBa {n : Int} (h : -9223372036854775808≤n) (h0 : n < 0) : (0 - n % 18446744073709551616) % 18446744073709551616 = (n.natAbs : Int):=by omega
theorem ZBb {n : Int} (h : n≤9223372036854775807) (h0 : ¬ n < 0) : n % 18446744073709551616 = (n.natAbs : Int):=by omega
theorem Zku (J : Al G T g) {n : Int} (h1 : -9223372036854775808≤n) (h2 : n≤9223372036854775807) : ∃ z,run G T 20 [.int .i64 n] = some (DyA z (intD n)):=by
 apply exP
 rw [Zab G T J.C.Zku]
 obtain ⟨z1,r1⟩:=ZjF J (n:=n.natAbs) (by omega)
 have hl : (dl n.natAbs).length < 17179869184:=by
  have h1:=Zaa n.natAbs
  have h2 : blen n.natAbs≤64:=Zaf.2 (by rw [show (2 : Nat) ^ 64 = 18446744073709551616 from rfl]; omega)
  omega
 obtain ⟨z2,r2⟩:=ZaY J (n:=decide (n < 0)) (z:=z1) (a:=n.natAbs) (e:=0) hl (by omega)
 unfold intD
 generalize mkD (decide (n < 0)) n.natAbs 0 = d at *
 by_cases h : n < 0
 ·have w1:=ZBa h1 h
  rw [decide_eq_true h] at r2
  generalize dl n.natAbs = l at *
  generalize (n.natAbs : Int) = m at *
  simp only [DyA,A3] at *
  repeat' (first|simp (maxSteps:=9^7) only [seval,exC,ZeT,w1,h,r1,r2]|simp (maxSteps:=9^7) (disch:=first|with_reducible assumption|omega) only [dxB]|(simp only [kdB];split)|(simp only [kvB];split))
  all_goals exact ⟨_,rfl,z2,rfl⟩
 ·have w1:=ZBb h2 h
  rw [decide_eq_false h] at r2
  generalize dl n.natAbs = l at *
  generalize (n.natAbs : Int) = m at *
  simp only [DyA,A3] at *
  repeat' (first|simp (maxSteps:=9^7) only [seval,exC,ZeT,w1,h,r1,r2]|simp (maxSteps:=9^7) (disch:=first|with_reducible assumption|omega) only [dxB]|(simp only [kdB];split)|(simp only [kvB];split))
  all_goals exact ⟨_,rfl,z2,rfl⟩
end Go.Cv
namespace Go.Cv
variable {G : Nat→Option (List AV)} {T : Tbl} {g : Nat}
section
variable (b : Nat) (k : IntKind)
end
end Go.Cv
namespace Go.Cv
def Zw (F : Fm) (p : Nat × Nat) : Prop:=p.1 < 2 * F.sg∧p.2 < 2 * F.sg
def zcells : List (Nat × Nat)→List AV
 | [] => []
 | p :: l => .int .u64 (p.1 : Int) :: .int .u64 (p.2 : Int) :: zcells l
end Go.Cv
namespace Go.Cv
theorem ZHx {d : Dy} {K : Int} (h : LoE d K) (h0 : d.m≠0) : K≤d.e:=h.resolve_left h0
end Go.Cv
namespace Go.Cv
end Go.Cv
namespace Go.Cv
variable {G : Nat→Option (List AV)} {T : Tbl} {g : Nat}
end Go.Cv
namespace Go.Cv
variable {G : Nat→Option (List AV)} {T : Tbl} {g : Nat}
section
variable {α : Type} (bs L : List α) (v : α)
theorem ga0 : (bs ++ L)[bs.length]? = L[0]?:=by rw [List.getElem?_append_right (Nat.le_refl _),Nat.sub_self]
theorem ga1 : (bs ++ L)[bs.length + 1]? = L[1]?:=by rw [List.getElem?_append_right (Nat.le_add_right ..),Nat.add_sub_cancel_left]
theorem ga2 : (bs ++ L)[bs.length + 2]? = L[2]?:=by rw [List.getElem?_append_right (Nat.le_add_right ..),Nat.add_sub_cancel_left]
theorem ga3 : (bs ++ L)[bs.length + 3]? = L[3]?:=by rw [List.getElem?_append_right (Nat.le_add_right ..),Nat.add_sub_cancel_left]
theorem ga4 : (bs ++ L)[bs.length + 4]? = L[4]?:=by rw [List.getElem?_append_right (Nat.le_add_right ..),Nat.add_sub_cancel_left]
theorem gs0 : (bs ++ L).set bs.length v = bs ++ L.set 0 v:=by rw [List.set_append_right _ _ (Nat.le_refl _),Nat.sub_self]
theorem gs1 : (bs ++ L).set (bs.length + 1) v = bs ++ L.set 1 v:=by rw [List.set_append_right _ _ (Nat.le_add_right ..),Nat.add_sub_cancel_left]
theorem gs2 : (bs ++ L).set (bs.length + 2) v = bs ++ L.set 2 v:=by rw [List.set_append_right _ _ (Nat.le_add_right ..),Nat.add_sub_cancel_left]
theorem gs3 : (bs ++ L).set (bs.length + 3) v = bs ++ L.set 3 v:=by rw [List.set_append_right _ _ (Nat.le_add_right ..),Nat.add_sub_cancel_left]
theorem gs4 : (bs ++ L).set (bs.length + 4) v = bs ++ L.set 4 v:=by rw [List.set_append_right _ _ (Nat.le_add_right ..),Nat.add_sub_cancel_left]
theorem gap (K : List α) : bs ++ L ++ K = bs ++ (L ++ K):=List.append_assoc ..
theorem gal : (bs ++ L).length = bs.length + L.length:=List.length_append
end
theorem gaB {α : Type} : type_of% (And.intro (And.intro (And.intro (@ga0 α) (And.intro (@ga1 α) (@ga2 α))) (And.intro (@ga3 α) (@ga4 α))) (And.intro (And.intro (@gs0 α) (And.intro (@gs1 α) (@gs2 α))) (And.intro (And.intro (@gs3 α) (@gs4 α)) (And.intro (@gap α) (@gal α))))):=And.intro (And.intro (And.intro (@ga0 α) (And.intro (@ga1 α) (@ga2 α))) (And.intro (@ga3 α) (@ga4 α))) (And.intro (And.intro (@gs0 α) (And.intro (@gs1 α) (@gs2 α))) (And.intro (And.intro (@gs3 α) (@gs4 α)) (And.intro (@gap α) (@gal α))))
theorem Zln : ∀ l : List (Nat × Nat),(zcells l).length = l.length * 2
 | [] => rfl
 | p :: l => by rw [zcells,List.length_cons,List.length_cons,List.length_cons,Zln l]; omega
def zc (l : List (Nat × Nat)) (i : Nat) : Nat × Nat:=l.getD i (0,0)
theorem ZHh {l : List (Nat × Nat)} {i : Nat} (h : i < l.length) : zc l i = l[i]:=by unfold zc; rw [List.getD_eq_getElem?_getD,List.getElem?_eq_getElem h]; rfl
theorem ZCX {l : List (Nat × Nat)} {i : Nat} (h : i < l.length) : zc l i ∈ l:=by rw [ZHh h]; exact List.getElem_mem h
theorem ZsN {l : List (Nat × Nat)} {i : Nat} (h : i < l.length) : l.drop i = zc l i :: l.drop (i + 1):=by rw [ZHh h]; exact List.drop_eq_getElem_cons h
theorem Zpu : ∀ (l : List (Nat × Nat)) (i : Nat),(zcells l).drop (i * 2) = zcells (l.drop i)
 | l,0 => rfl
 | [],i + 1 => by simp [zcells]
 | p :: l,i + 1 => by
  rw [zcells,List.drop_succ_cons,← Zpu l i,show (i + 1) * 2 = i * 2 + 1 + 1 by omega,List.drop_succ_cons,List.drop_succ_cons]
theorem Zwx {l : List (Nat × Nat)} {i : Nat} (h : i < l.length) : ((zcells l).drop (i * 2)).take 2 = [.int .u64 ((zc l i).1 : Int),.int .u64 ((zc l i).2 : Int)]:=by
 rw [Zpu,ZsN h]; rfl
def W64 (l : List (Nat × Nat)) : Prop:=∀ a ∈ l,a.1 < 18446744073709551616∧a.2 < 18446744073709551616
def Zws (F : Fm) (l : List (Nat × Nat)) : Prop:=∀ a ∈ l,Zw F a
theorem ZnB {F : Fm} {a : Nat × Nat} {l : List (Nat × Nat)} : Zws F (a :: l)↔Zw F a∧Zws F l:=List.forall_mem_cons
theorem ZwI {F : Fm} : Zws F []:=fun _ h => by cases h
end Go.Cv
namespace Go.Cv
variable {G : Nat→Option (List AV)} {T : Tbl} {g : Nat}
end Go.Cv
namespace Go.Cv
variable {G : Nat→Option (List AV)} {T : Tbl} {g : Nat}
section
variable (x y z : AV) (k : IntKind)
end
end Go.Cv
namespace Go.Cv
variable {G : Nat→Option (List AV)} {T : Tbl} {g : Nat}
def Tb (d : Dy) (W E : Nat) : Prop:=d.m≠0→(-(E : Int)≤d.e∧d.e + blen d.m≤W)
theorem Tb.mono {d : Dy} {W E W' E' : Nat} (h : Tb d W E) (h1 : W≤W') (h2 : E≤E') : Tb d W' E':=fun h0 => by have:=h h0; omega
theorem ZtY {d : Dy} {K : Nat} (h : Bd d K) (hK : K≤1073741824) : (dl d.m).length < 1073741824:=by
 have:=Zaa d.m
 have:=h.bl
 omega
theorem Zlf (J : Al G T g) {z y : Bool} {a b : Dy} (ha : Bd a 1000000) (hb : Bd b 1000000) : ∃ z',run G T 154 [DyA z a,DyA y b] = some (DyA z' (mulD a b)) :=
 Zkv J (z:=z) (y:=y) (ZtY ha (by decide)) (ZtY hb (by decide)) (by have:=ha.lo; have:=ha.hi; omega) (by have:=hb.lo; have:=hb.hi; omega)
theorem Zpq (a b a' b' : Int) : eqsA false [false,false] (.agg [.int .u64 a,.int .u64 b]) (.agg [.int .u64 a',.int .u64 b']) = some (.bool (decide (a = a'∧b = b'))):=by
 simp [eqsA,kindsA,eqCells,Bool.decide_and]
 all_goals rfl
theorem Ztr (a b a' b' : Int) : eqsA true [false,false] (.agg [.int .u64 a,.int .u64 b]) (.agg [.int .u64 a',.int .u64 b']) = some (.bool (!decide (a = a'∧b = b'))):=by
 simp [eqsA,kindsA,eqCells,Bool.decide_and]
 all_goals rfl
theorem ZlK (F : CallF) (d : Option Nat) (os : List IOper) (e : Env) (h : Heap) (zero : List AV) (ps : List (Nat × Nat × IOpd)) : evOps G F (⟨d,.bslice 1 2 zero ps,none⟩ :: os) e h =
  kBs G F (fillA zero (ps.map fun (o,n,x) => (o,n,opd e x))) (.own h.b.length 0 1 2) d os e h:=by
 have:=ZiF G F d os e h 1 2 zero ps
 rwa [show repA 1 zero = zero by simp [repA]] at this
theorem Zty {l : List (Nat × Nat)} {i : Nat} {w : List AV} (h : i < l.length) : ((zcells l ++ w).drop (i * 2)).take 2 = [.int .u64 ((zc l i).1 : Int),.int .u64 ((zc l i).2 : Int)]:=by
 rw [List.drop_append_of_le_length (by rw [Zln]; omega),List.take_append_of_le_length (by rw [List.length_drop,Zln]; omega),Zwx h]
theorem ZqC (n : Nat) : intD (n : Int) = mkD false n 0:=by
 unfold intD; rw [decide_eq_false (by omega),Int.natAbs_natCast]
theorem ZvM {n : Nat} (h : n≤41) (h0 : n≠0) : tz n≤5:=by
 have hs:=(ZdI h0).1
 rcases Nat.lt_or_ge 5 (tz n) with q | q
 ·exfalso
  have h2 : 2 ^ 6≤2 ^ tz n:=Nat.pow_le_pow_right (by decide) q
  have h3 : n / 2 ^ tz n≠0:=fun q0 => by rw [q0,Nat.zero_mul] at hs; exact h0 hs
  have h4 : 1 * 2 ^ tz n≤n / 2 ^ tz n * 2 ^ tz n:=Nat.mul_le_mul_right _ (Nat.pos_of_ne_zero h3)
  rw [Nat.one_mul] at h4
  have h5 : 2 ^ 6≤n:=Nat.le_trans (Nat.le_trans h2 h4) (Nat.le_of_eq hs.symm)
  omega
 ·exact q
theorem ZBd {n : Nat} (h : n≤41) : Bd (intD (n : Int)) 6:=by
 rw [ZqC]
 have hb : blen n≤6:=Zaf.2 (by rw [show (2 : Nat) ^ 6 = 64 from rfl]; omega)
 by_cases h0 : n = 0
 ·subst h0
  exact ⟨by decide,by decide,by decide⟩
 ·have ht:=ZvM h h0
  rw [Zal h0]
  exact ⟨Nat.le_trans (Zat (Nat.div_le_self _ _)) hb,by simp only; omega,by simp only; omega⟩
theorem Zqo (J : Al G T g) {n : Nat} (h : n≤41) : ∃ z,run G T 272 [.int .i64 (n : Int)] = some (DyA z (intD (n : Int))):=by
 rw [Zab G T J.J.Zqo,ZqC]
 obtain ⟨z1,r1⟩:=ZoN J (n:=n) (by omega)
 have hb : blen n≤6:=Zaf.2 (by rw [show (2 : Nat) ^ 6 = 64 from rfl]; omega)
 have ht : n = 0∨(-16777216≤(0 : Int) + tz n∧(0 : Int) + tz n≤16777216):=by
  by_cases h0 : n = 0
  ·exact Or.inl h0
  ·have:=ZvM h h0
   right; omega
 obtain ⟨z2,r2⟩:=ZbV J (n:=false) (z:=z1) (a:=n) (e:=0) (Zaq (by omega)) ht (by omega)
 refine ⟨z2,?_⟩
 have w1 : (n : Int) % 18446744073709551616 = (n : Int):=by omega
 have w0 : ¬ (n : Int) < 0:=by omega
 generalize mkD false n 0 = d at *
 generalize dl n = l at *
 generalize (n : Int) = m at *
 simp only [DyA,A3] at *
 repeat' (first|simp (maxSteps:=9^7) only [seval,exC,Zih,w1,w0,r1,r2]|simp (maxSteps:=9^7) (disch:=first|with_reducible assumption|omega) only [dxB]|(simp only [kdB];split)|(simp only [kvB];split))
theorem ZBM {k n i : Nat} (h : i < n) : iaddrV 2 (.own k 0 n 2) (.int .i64 (i : Int)) = some (.ptr k (i * 2)):=by
 rw [iaddrV,if_pos ⟨by omega,by omega,rfl⟩,Int.toNat_natCast,Nat.zero_add]
theorem ZCr {bs : List Blk} {f : List Nat} {k i : Nat} {l : List (Nat × Nat)} {w : List AV} (h : i < l.length) (hb : bs[k]? = some ⟨zcells l ++ w,false⟩) : rdAt G (Heap.mem ⟨bs,f⟩) 2 (.ptr k (i * 2)) = some [.int .u64 ((zc l i).1 : Int),.int .u64 ((zc l i).2 : Int)]:=by
 rw [rdAt,ZoR,hb,Zpp,sub,if_pos (by rw [List.length_append,Zln]; omega),Zty h]
def kTr (o : Option (Env × Heap)) : Option (Ex × Env × Heap):=o.map fun r => (.norm,r.1,r.2)
theorem ZuB (e : Env) (h : Heap) : kTr (some (e,h)) = some (.norm,e,h):=rfl
theorem ZCx (ops : List IOper) (t : OT) (l : List Nat) (e : Env) (h : Heap) : evL G T (.tree ops t l) e h = kTr (evT G (CF G T) ops (finT l) t e h):=ZAk G T ops t l e h
noncomputable def kTi (F : CallF) (ops : List IOper) (fin : Env→Heap→Option (Env × Heap)) (t : OT) (o : Option IOper) (e : Env) (h : Heap) : Option (Env × Heap):=match o with
 | some o => (evOps G F [o] e h).bind fun r => evT G F ops fin t r.1 r.2
 | none => none
noncomputable def kT (F : CallF) (ops : List IOper) (fin : Env→Heap→Option (Env × Heap)) (t : OT) (o : Option (Env × Heap)) : Option (Env × Heap):=o.bind fun r => evT G F ops fin t r.1 r.2
theorem ZBD (F : CallF) (ops : List IOper) (fin : Env→Heap→Option (Env × Heap)) (i : Nat) (t : OT) (e : Env) (h : Heap) : evT G F ops fin (.op i t) e h = kTi (G:=G) F ops fin t ops[i]? e h:=by
 simp only [evT,kTi]
 cases ops[i]? <;> rfl
theorem ZuA (F : CallF) (ops : List IOper) (fin : Env→Heap→Option (Env × Heap)) (t : OT) (o : IOper) (e : Env) (h : Heap) : kTi (G:=G) F ops fin t (some o) e h = kT (G:=G) F ops fin t (evOps G F [o] e h):=rfl
theorem Zyg (F : CallF) (ops : List IOper) (fin : Env→Heap→Option (Env × Heap)) (t : OT) (e : Env) (h : Heap) : kT (G:=G) F ops fin t (some (e,h)) = evT G F ops fin t e h:=rfl
theorem ZxI (F : CallF) (ops : List IOper) (fin : Env→Heap→Option (Env × Heap)) (a b : OT) (e : Env) (h : Heap) : evT G F ops fin (.alt a b) e h = bothO (evT G F ops fin a e h) (evT G F ops fin b e h):=rfl
theorem Zug (F : CallF) (ops : List IOper) (l : List Nat) (e : Env) (h : Heap) : evT G F ops (finT l) .done e h = some (keepE l e,h):=rfl
theorem ZpC {α : Type} (x : α) : bothO (some x) (some x) = some x:=by simp [bothO]
theorem ZAs (k : IntKind) (n : Int) (bs : List Nat) : fz1 (.int k n) bs = []:=rfl
theorem ZAr (b : Bool) (bs : List Nat) : fz1 (.bool b) bs = []:=rfl
def fk : Fm→FloatKind
 | .s => .f32
 | .d => .f64
theorem ie_f (F : Fm) : (fk F).format.fractionBits = F.fr∧(fk F).format.leastPlace = F.low∧(fk F).format.binade = 2 ^ F.fr∧(fk F).format.infRung = F.i0∧(fk F).format.signWeight = F.sg:=by cases F <;> decide
theorem Ztx (F : Fm) (n : Bool) (r : Nat) : (fk F).format.word n r = r + F.sgn n:=by
 unfold Ieee.Format.word Fm.sgn
 rw [(ie_f F).2.2.2.2]
 cases n <;> simp <;> omega
def flW (F : Fm) (r : Nat) : AV:=if F.cls r = 5 then .nan (fk F) else .fl (fk F) r
theorem ZAa (neg : Bool) (n : Nat) {k : Nat} (hk : 0 < k) : Ieee.Toward.even.cut neg n k = (rdN 1 neg n false k).1:=by
 obtain ⟨i,rfl⟩ : ∃ i,k = i + 1:=⟨k - 1,by omega⟩
 unfold Ieee.Toward.cut rdN
 simp only [Nat.one_shiftLeft]
 have hlt : n < 2 ^ (n.log2 + 1):=Nat.lt_log2_self
 by_cases hc : i + 1≤n.log2 + 2
 ·rw [Nat.min_eq_left hc]
  congr 1
  have hp:=Nat.two_pow_pos i
  have e1 : n % 2 ^ (i + 1) = n % 2 ^ i + 2 ^ i * (n / 2 ^ i % 2):=by rw [Nat.pow_succ,Nat.mod_mul]
  have e2 : 2 ^ (i + 1) = 2 ^ i * 2:=Nat.pow_succ ..
  have h2 : n / 2 ^ i % 2 < 2:=Nat.mod_lt _ (by decide)
  have h3 : n % 2 ^ i < 2 ^ i:=Nat.mod_lt _ hp
  unfold upB halfN moreN
  rw [if_pos rfl,Nat.add_sub_cancel,e1,e2]
  congr 1
  generalize n / (2 ^ i * 2) = q
  generalize n / 2 ^ i % 2 = h at *
  generalize n % 2 ^ i = r at *
  generalize 2 ^ i = p at *
  rcases (show h = 0∨h = 1 by omega) with rfl | rfl
  ·have g1 : ¬ p * 2 < 2 * (r + p * 0):=by omega
   have g2 : ¬ p * 2 = 2 * (r + p * 0):=by omega
   simp [g1,g2]
   omega
  ·by_cases hr : r = 0
   ·subst hr
    have g1 : ¬ p * 2 < 2 * (0 + p * 1):=by omega
    have g2 : p * 2 = 2 * (0 + p * 1):=by omega
    have g3 : 2 * p = p * 2:=by omega
    have g4 : ¬ p * 2 < 2 * p:=by omega
    by_cases hq : q % 2 = 1 <;> simp [hq,g3]
   ·have g1 : p * 2 < 2 * (r + p * 1):=by omega
    have g3 : p * 2 < 2 * (r + p):=by omega
    simp [g3,hr]
 ·rw [Nat.min_eq_right (by omega)]
  have e1 : 2 ^ (n.log2 + 2) = 2 ^ (n.log2 + 1) * 2:=Nat.pow_succ ..
  have hb : n < 2 ^ i:=Nat.lt_of_lt_of_le hlt (Nat.pow_le_pow_right (by decide) (by omega))
  have hb2 : n < 2 ^ (i + 1):=Nat.lt_trans hb (Nat.pow_lt_pow_right (by decide) (by omega))
  rw [Nat.div_eq_of_lt (show n < 2 ^ (n.log2 + 2) by omega),Nat.mod_eq_of_lt (show n < 2 ^ (n.log2 + 2) by omega),Nat.div_eq_of_lt hb2]
  unfold upB halfN
  rw [if_pos rfl,Nat.add_sub_cancel,Nat.div_eq_of_lt hb]
  have g1 : ¬ 2 ^ (n.log2 + 2) < 2 * n:=by omega
  have g2 : ¬ 2 ^ (n.log2 + 2) = 2 * n:=by omega
  simp [g1,g2]
theorem ZDY (F : Fm) (neg : Bool) {m : Nat} (h0 : m≠0) (e : Int) : (fk F).format.nearest neg m e = (rndW F 1 (mkD neg m e)).1:=by
 obtain ⟨f1,f2,f3,f4,f5⟩:=ie_f F
 have hd : (mkD neg m e).m≠0:=fun q => by
  have:=ZoI (n:=neg) h0 (Int.le_refl e)
  rw [q,Nat.zero_mul] at this
  have:=Nat.mul_pos (Nat.pos_of_ne_zero h0) (Nat.two_pow_pos (e - e).toNat)
  omega
 have hn : (mkD neg m e).n = neg:=ZAB h0 e
 have htop : (mkD neg m e).e + (blen (mkD neg m e).m : Int) = e + blen m:=by
  rw [Zal h0]
  simp only
  have h1:=(ZdI h0).1
  have h2 : m / 2 ^ tz m≠0:=fun q => by rw [q,Nat.zero_mul] at h1; exact h0 h1
  have h3:=Zau h2 (tz m)
  rw [← h1] at h3
  omega
 unfold Ieee.Format.nearest
 rw [if_neg h0,f1,f2,f3,f4,Ztx]
 have hlast : max (e + (m.log2 : Int) - (F.fr : Int)) F.low = F.eOf (e + blen m):=by
  unfold Fm.eOf blen
  rw [if_neg h0]
  congr 1
  push_cast
  omega
 rw [hlast,ZyX F 1 hd,hn,ZqR F hd,hn,htop]
 have hr : rnd 1 neg (mkD neg m e).m (mkD neg m e).e (F.eOf (e + blen m)) = rnd 1 neg m e (F.eOf (e + blen m)):=by
  have hle : e≤(mkD neg m e).e:=by rw [Zal h0]; simp only; omega
  rw [ZyY 1 neg (mkD neg m e).m (L:=min e (F.eOf (e + blen m) - 1)) (by omega) (by omega),ZyY 1 neg m (L:=min e (F.eOf (e + blen m) - 1)) (by omega) (by omega),ZoI h0 (by omega)]
 rw [hr]
 have hk : Ieee.Toward.even.cut neg (m <<< (e - F.eOf (e + blen m)).toNat) (F.eOf (e + blen m) - e).toNat = (rnd 1 neg m e (F.eOf (e + blen m))).1:=by
  generalize F.eOf (e + blen m) = u
  unfold rnd
  by_cases hu : u≤e
  ·rw [if_pos hu,show (u - e).toNat = 0 by omega,Nat.shiftLeft_eq]
   unfold Ieee.Toward.cut
   simp [Nat.mod_one]
  ·rw [if_neg hu,show (e - u).toNat = 0 by omega,Nat.shiftLeft_zero]
   exact ZAa neg m (by omega)
 rw [hk]
 have ho : ovs F 1 neg = F.i0:=by unfold ovs; simp
 rw [ho]
 unfold Fm.enc
 split
 ·rw [Nat.min_eq_right (by assumption)]
 ·rw [Nat.min_eq_left (by omega)]
theorem not5 (F : Fm) {s : Nat} (n : Bool) (h : s≤F.i0) : F.cls (s + F.sgn n)≠5:=by
 have hi:=Zdr F
 have hm:=(Zdg (F:=F) (s:=s) n (by omega)).1
 have h2 : F.i0 = F.most * 2 ^ F.fr:=rfl
 have hp:=Nat.two_pow_pos F.fr
 unfold Fm.cls Fm.ex Fm.fc
 rw [hm]
 intro hc
 by_cases h0 : s / 2 ^ F.fr = 0
 ·rw [if_pos h0] at hc
  split at hc <;> revert hc <;> decide
 ·rw [if_neg h0] at hc
  by_cases h1 : s / 2 ^ F.fr < F.most
  ·rw [if_pos h1] at hc; exact absurd hc (by decide)
  ·rw [if_neg h1] at hc
   have e:=Nat.div_add_mod s (2 ^ F.fr)
   have h3 : F.most * 2 ^ F.fr≤s / 2 ^ F.fr * 2 ^ F.fr:=Nat.mul_le_mul_right _ (by omega)
   rw [Nat.mul_comm (2 ^ F.fr)] at e
   have h4 : s % 2 ^ F.fr = 0:=by omega
   rw [if_pos h4] at hc; exact absurd hc (by decide)
theorem rnd5 (F : Fm) {m : Int} (m1 : 1≤m) (m2 : m≤5) (d : Dy) : F.cls (rndW F m d).1≠5:=by
 obtain ⟨s,n,h1,h2,_⟩:=ZqS F m1 m2 d
 rw [h1]; exact not5 F n h2
theorem sum5 (F : Fm) {m : Int} (m1 : 1≤m) (m2 : m≤5) (d : Dy) : F.cls (sumW F m d).1≠5:=by
 unfold sumW
 split
 ·rw [(ZeH F _).2.2.1]; decide
 ·exact rnd5 F m1 m2 d
theorem nan5 (F : Fm) : F.cls F.nan = 5:=by cases F <;> decide
theorem ZgS (F : Fm) : flW F F.nan = .nan (fk F):=by unfold flW; rw [if_pos (nan5 F)]
theorem Zit {F : Fm} {r : Nat} (h : F.cls r≠5) : flW F r = .fl (fk F) r:=if_neg h
theorem ZGG (F : Fm) {w : Nat} (hw : w < 2 * F.sg) : (w / (fk F).format.signWeight % 2 == 1) = F.ng w:=by
 rw [(ie_f F).2.2.2.2]
 have hi:=Zdr F
 unfold Fm.ng
 by_cases h : F.sg≤w
 ·have : w / F.sg = 1:=Nat.div_eq_of_lt_le (by omega) (by omega)
  rw [this,decide_eq_true h]; rfl
 ·rw [Nat.div_eq_of_lt (by omega),decide_eq_false h]; rfl
theorem Zvb (F : Fm) {w : Nat} (hw : w < 2 * F.sg) (hf : F.fin w) : ∃ m p,(fk F).format.read w = .number (F.ng w) m p∧F.vl w = mkD (F.ng w) m p:=by
 obtain ⟨f1,f2,f3,f4,f5⟩:=ie_f F
 have hp:=Nat.two_pow_pos F.fr
 have h2 : F.i0 = F.most * 2 ^ F.fr:=rfl
 have hi:=(ZHe F hw (by have:=Zas.1 hf; omega)).2.1 hf
 have hs:=ZGG F hw
 unfold Ieee.Format.read
 simp only [hs]
 rw [f5,f3,f4,f2]
 rw [ZbY hf]
 unfold Fm.val Fm.ex Fm.fc
 by_cases h0 : w % F.sg < 2 ^ F.fr
 ·rw [if_pos h0,if_pos (Nat.div_eq_of_lt h0),Nat.mod_eq_of_lt h0]
  exact ⟨_,_,rfl,rfl⟩
 ·have h1 : 1≤w % F.sg / 2 ^ F.fr:=(Nat.le_div_iff_mul_le hp).2 (by omega)
  rw [if_neg h0,if_pos hi,if_neg (by omega)]
  refine ⟨_,_,rfl,?_⟩
  congr 1
  omega
theorem Zvc (F : Fm) {w : Nat} (hw : w < 2 * F.sg) (h : F.cls w = 4) : (fk F).format.read w = .infinity (F.ng w):=by
 obtain ⟨f1,f2,f3,f4,f5⟩:=ie_f F
 have hi:=Zdr F
 have hs:=ZGG F hw
 have hp:=Nat.two_pow_pos F.fr
 have he:=ZlX hw h
 have hm : w % F.sg = F.i0:=by
  have h0 : ∀ b,F.inf b = F.i0 + F.sgn b:=by intro b; cases F <;> cases b <;> decide
  have:=h0 (F.ng w)
  have h2:=(Zdg (F:=F) (s:=F.i0) (F.ng w) (by omega)).1
  rw [← this,← he] at h2
  exact h2
 have hb : 2 ^ F.fr≤F.i0:=by cases F <;> decide
 unfold Ieee.Format.read
 simp only [hs]
 rw [f5,f3,f4,hm,if_neg (by omega),if_neg (by omega),if_pos rfl]
theorem Zsa (F : Fm) {w : Nat} (hw : w < 2 * F.sg) (h : F.cls w = 5) : ∃ n t,(fk F).format.read w = .nan n t:=by
 obtain ⟨f1,f2,f3,f4,f5⟩:=ie_f F
 have hi:=Zdr F
 have hp:=Nat.two_pow_pos F.fr
 have hb : 2 ^ F.fr≤F.i0:=by cases F <;> decide
 have h2 : F.i0 = F.most * 2 ^ F.fr:=rfl
 have hm : F.i0 < w % F.sg:=by
  rcases Nat.lt_or_ge F.i0 (w % F.sg) with q | q
  ·exact q
  ·have:=not5 F (F.ng w) q
   rw [← ZGz F hw] at this
   exact absurd h this
 unfold Ieee.Format.read
 simp only
 rw [f5,f3,f4,if_neg (by omega),if_neg (by omega),if_neg (by omega)]
 exact ⟨_,_,rfl⟩
theorem cls3 (F : Fm) (w : Nat) : F.cls w = 5∨F.cls w = 4∨F.fin w:=by
 have:=Zdq F w
 rw [Zas]; omega
theorem ZsF (F : Fm) (n : Bool) (m : Nat) (e : Int) : (fk F).format.write (.number n m e) = if m = 0 then F.sgn n else (rndW F 1 (mkD n m e)).1:=by
 show (fk F).format.nearest n m e = _
 by_cases h : m = 0
 ·rw [if_pos h,h]
  unfold Ieee.Format.nearest
  rw [if_pos rfl,Ztx,Nat.zero_add]
 ·rw [if_neg h]; exact ZDY F n h e
theorem ZiK (F : Fm) (n : Bool) : (fk F).format.write (.infinity n) = F.inf n:=by
 show (fk F).format.word n (fk F).format.infRung = _
 rw [Ztx,(ie_f F).2.2.2.1]
 cases F <;> cases n <;> decide
theorem Zso (n : Bool) (m : Nat) (e L : Int) (h : L≤e) : Ieee.signed n m (e - L).toNat = iv (mkD n m e) L:=by
 rw [Zia h]
 unfold Ieee.signed
 rw [Nat.shiftLeft_eq]
 cases n <;> simp
theorem inf5 (F : Fm) (n : Bool) : F.cls (F.inf n)≠5:=by rw [Zqm]; decide
theorem sgn5 (F : Fm) (n : Bool) : F.cls (F.sgn n)≠5:=by rw [(ZeH F n).2.2.1]; decide
theorem ZEw (F : Fm) (s t : Bool) (m n : Nat) (i j : Int) : ∃ q,(Ieee.Datum.sum (.number s m i) (.number t n j)).map (fk F).format.write = some q ∧
  ((iv (mkD s m i) (min i j) + iv (mkD t n j) (min i j) = 0∧q = F.sgn (s && t))∨(iv (mkD s m i) (min i j) + iv (mkD t n j) (min i j)≠0∧q = (rndW F 1 (addD (mkD s m i) (mkD t n j))).1)):=by
 have e1:=Zso s m i (min i j) (by omega)
 have e2:=Zso t n j (min i j) (by omega)
 refine ⟨_,rfl,?_⟩
 rw [ZsF,e1,e2]
 obtain ⟨a1,a2⟩:=ZdR (a:=mkD s m i) (b:=mkD t n j) (L:=min i j) (Zdd (by omega)) (Zdd (by omega))
 generalize iv (mkD s m i) (min i j) = x at *
 generalize iv (mkD t n j) (min i j) = y at *
 by_cases h0 : x + y = 0
 ·left
  rw [h0]
  simp
 ·right
  refine ⟨h0,?_⟩
  rw [if_neg (by omega),if_neg h0]
  congr 2
  refine ZrV (L:=min i j) (ZlO _ _ _) (ZgX (ZlO _ _ _) (ZlO _ _ _)) (Zdd (Int.le_refl _)) a2 ?_
  rw [Zia (Int.le_refl _),a1,Int.sub_self,show ((0 : Int)).toNat = 0 from rfl,Nat.pow_zero,Nat.mul_one]
  by_cases hx : x + y < 0
  ·rw [decide_eq_true hx]; simp; omega
  ·rw [decide_eq_false hx]; simp; omega
theorem Znt {F : Fm} {w : Nat} (h : F.fin w) : F.cls w≠5∧F.cls w≠4:=by have:=Zas.1 h; omega
theorem ZrN {n : Bool} {m : Nat} {e : Int} : (mkD n m e).m = 0↔m = 0:=by
 by_cases h : m = 0
 ·subst h; rw [ZbP]
 ·constructor
  ·intro q
   have:=ZoI (n:=n) h (Int.le_refl e)
   rw [q,Nat.zero_mul] at this
   have:=Nat.mul_pos (Nat.pos_of_ne_zero h) (Nat.two_pow_pos (e - e).toNat)
   omega
  ·intro q; exact absurd q h
theorem Zzw (F : Fm) {a b : Nat} (ha : a < 2 * F.sg) (hb : b < 2 * F.sg) (t : Bool) (db : Dy) (D : Ieee.Datum)
  (hD : (F.cls b = 5∧∃ n f,D = .nan n f)∨(F.cls b = 4∧D = .infinity t)∨(F.fin b∧∃ n j,D = .number t n j∧db = mkD t n j∧(F.cls b = 1↔n = 0))) :
  flR (fk F) ((((fk F).format.read a).sum D).map (fk F).format.write) = flW F (addP F 1 (F.cls a) (F.ng a) (F.vl a) (F.cls b) t db).1:=by
 unfold addP
 rcases cls3 F a with ca | ca | ca
 ·obtain ⟨n,f,e⟩:=Zsa F ha ca
  rw [e,if_pos (Or.inl ca),ZgS]; rfl
 ·rw [Zvc F ha ca]
  rcases hD with ⟨cb,n,f,rfl⟩ | ⟨cb,rfl⟩ | ⟨cb,n,j,rfl,_⟩
  ·rw [if_pos (Or.inr cb),ZgS]; rfl
  ·rw [if_neg (by omega)]
   by_cases h : F.ng a = t
   ·rw [if_neg (fun q => q.2.2 h),if_pos ca,Zit (inf5 F _),h]
    simp [Ieee.Datum.sum,ZiK,flR]
   ·rw [if_pos ⟨ca,cb,h⟩,ZgS]
    simp [Ieee.Datum.sum,h,flR]
  ·have:=Znt cb
   rw [if_neg (by omega),if_neg (fun q => this.2 q.2.1),if_pos ca,Zit (inf5 F _)]
   simp [Ieee.Datum.sum,ZiK,flR]
 ·obtain ⟨m,i,e,ev⟩:=Zvb F ha ca
  have fa:=Znt ca
  rw [e]
  rcases hD with ⟨cb,n,f,rfl⟩ | ⟨cb,rfl⟩ | ⟨cb,n,j,rfl,rfl,z2⟩
  ·rw [if_pos (Or.inr cb),ZgS]; rfl
  ·rw [if_neg (by omega),if_neg (fun q => fa.2 q.1),if_neg fa.2,if_pos cb,Zit (inf5 F _)]
   simp [Ieee.Datum.sum,ZiK,flR]
  ·have fb:=Znt cb
   rw [if_neg (by omega),if_neg (fun q => fa.2 q.1),if_neg fa.2,if_neg fb.2]
   obtain ⟨q,hq,hc⟩:=ZEw F (F.ng a) t m n i j
   rw [hq,ev]
   have la : LoE (mkD (F.ng a) m i) (min i j):=Zdd (by omega)
   have lb : LoE (mkD t n j) (min i j):=Zdd (by omega)
   obtain ⟨a1,a2⟩:=ZdR la lb
   have z1 : (F.cls a = 1)↔m = 0:=by rw [ZkV ha ca,ev,ZrN]
   have x0 : m = 0→iv (mkD (F.ng a) m i) (min i j) = 0:=fun q => ZaP (ZrN.2 q) _
   have y0 : n = 0→iv (mkD t n j) (min i j) = 0:=fun q => ZaP (ZrN.2 q) _
   have nz : ∀ {d : Dy} {L : Int},d.m≠0→iv d L≠0:=fun {d L} h q => by
    have hp:=Nat.mul_pos (Nat.pos_of_ne_zero h) (Nat.two_pow_pos (d.e - L).toNat)
    rcases ZqD d L with ⟨r,_⟩ | ⟨r,_⟩ <;> rw [r] at q <;> omega
   have sx : F.ng a = true→iv (mkD (F.ng a) m i) (min i j)≤0:=fun q => by
    rw [Zia (by omega),q]; simp only [if_true,Int.neg_mul,Int.one_mul]; omega
   have sy : t = true→iv (mkD t n j) (min i j)≤0:=fun q => by
    rw [Zia (by omega),q]; simp only [if_true,Int.neg_mul,Int.one_mul]; omega
   by_cases hz : F.cls a = 1∧F.cls b = 1∧F.ng a = t
   ·rw [if_pos hz,Zit (sgn5 F _)]
    rcases hc with ⟨_,hq'⟩ | ⟨h1,_⟩
    ·rw [hq',hz.2.2]; simp [flR]
    ·exact absurd (by rw [x0 (z1.1 hz.1),y0 (z2.1 hz.2.1)]; rfl) h1
   ·rw [if_neg hz,Zit (sum5 F (by decide) (by decide) _)]
    unfold sumW
    rcases hc with ⟨h0,hq'⟩ | ⟨h1,hq'⟩
    ·have hm : (addD (mkD (F.ng a) m i) (mkD t n j)).m = 0:=Classical.byContradiction fun q => nz q (by rw [a1]; exact h0)
     rw [if_pos hm,hq']
     have : (F.ng a && t) = false:=by
      cases hs : F.ng a with
      | false => rfl
      | true =>
       cases ht : t with
       | false => rfl
       | true =>
        exfalso
        have h1:=sx hs
        have h2:=sy ht
        have hx : m = 0:=Classical.byContradiction fun q => nz (fun r => q (ZrN.1 r)) (show iv (mkD (F.ng a) m i) (min i j) = 0 by omega)
        have hy : n = 0:=Classical.byContradiction fun q => nz (fun r => q (ZrN.1 r)) (show iv (mkD t n j) (min i j) = 0 by omega)
        exact hz ⟨z1.2 hx,z2.2 hy,by rw [hs,ht]⟩
     rw [this]
     simp [flR]
    ·have hm : (addD (mkD (F.ng a) m i) (mkD t n j)).m≠0:=fun q => h1 (by rw [← a1,ZaP q])
     rw [if_neg hm,hq']
     simp [flR]
theorem ZtW (F : Fm) {b : Nat} (hb : b < 2 * F.sg) : (F.cls b = 5∧∃ n f,(fk F).format.read b = .nan n f)∨(F.cls b = 4∧(fk F).format.read b = .infinity (F.ng b))∨(F.fin b∧∃ n j,(fk F).format.read b = .number (F.ng b) n j∧F.vl b = mkD (F.ng b) n j∧(F.cls b = 1↔n = 0)):=by
 rcases cls3 F b with c | c | c
 ·exact .inl ⟨c,Zsa F hb c⟩
 ·exact .inr (.inl ⟨c,Zvc F hb c⟩)
 ·obtain ⟨n,j,e,ev⟩:=Zvb F hb c
  exact .inr (.inr ⟨c,n,j,e,ev,by rw [ZkV hb c,ev,ZrN]⟩)
theorem ZEN (F : Fm) {a b : Nat} (ha : a < 2 * F.sg) (hb : b < 2 * F.sg) : flR (fk F) ((fk F).format.add a b) = flW F (addW F 1 a b).1 :=
 Zzw F ha hb (F.ng b) (F.vl b) _ (ZtW F hb)
theorem ZGn (n : Bool) (m : Nat) (e : Int) : negD (mkD n m e) = mkD (!n) m e:=by
 by_cases h : m = 0
 ·subst h; rw [ZbP,ZbP]; rfl
 ·unfold negD
  rw [if_neg (fun r => h (ZrN.1 r)),Zal h,Zal h]
theorem ZGW (F : Fm) {a b : Nat} (ha : a < 2 * F.sg) (hb : b < 2 * F.sg) : flR (fk F) ((fk F).format.sub a b) = flW F (subW F 1 a b).1:=by
 refine Zzw F ha hb (!F.ng b) (negD (F.vl b)) _ ?_
 rcases ZtW F hb with ⟨c,n,f,e⟩ | ⟨c,e⟩ | ⟨c,n,j,e,ev,z⟩
 ·rw [e]; exact .inl ⟨c,_,_,rfl⟩
 ·rw [e]; exact .inr (.inl ⟨c,rfl⟩)
 ·rw [e,ev,ZGn]; exact .inr (.inr ⟨c,n,j,rfl,rfl,z⟩)
theorem ZGk (F : Fm) {a b : Nat} (ha : a < 2 * F.sg) (hb : b < 2 * F.sg) : flR (fk F) ((fk F).format.mul a b) = flW F (mulW2 F 1 a b).1:=by
 show flR (fk F) ((((fk F).format.read a).product ((fk F).format.read b)).map (fk F).format.write) = _
 unfold mulW2 mulP
 rcases ZtW F ha with ⟨ca,n,f,e⟩ | ⟨ca,e⟩ | ⟨ca,m,i,e,ev,z1⟩ <;> rcases ZtW F hb with ⟨cb,n',f',e'⟩ | ⟨cb,e'⟩ | ⟨cb,m',i',e',ev',z2⟩ <;> rw [e,e']
 ·rw [if_pos (Or.inl ca),ZgS]; rfl
 ·rw [if_pos (Or.inl ca),ZgS]; rfl
 ·rw [if_pos (Or.inl ca),ZgS]; rfl
 ·rw [if_pos (Or.inr cb),ZgS]; rfl
 ·rw [if_neg (by omega),if_neg (by omega),if_pos (Or.inl ca),Zit (inf5 F _)]
  simp [Ieee.Datum.product,ZiK,flR]
 ·have fb:=Znt cb
  rw [if_neg (by omega)]
  by_cases h0 : m' = 0
  ·rw [if_pos ⟨Or.inl ca,Or.inr (z2.2 h0)⟩,ZgS]
   simp [Ieee.Datum.product,h0,flR]
  ·have : F.cls b≠1:=fun q => h0 (z2.1 q)
   rw [if_neg (by omega),if_pos (Or.inl ca),Zit (inf5 F _)]
   simp [Ieee.Datum.product,h0,ZiK,flR]
 ·rw [if_pos (Or.inr cb),ZgS]; rfl
 ·have fa:=Znt ca
  rw [if_neg (by omega)]
  by_cases h0 : m = 0
  ·rw [if_pos ⟨Or.inr cb,Or.inl (z1.2 h0)⟩,ZgS]
   simp [Ieee.Datum.product,h0,flR]
  ·have : F.cls a≠1:=fun q => h0 (z1.1 q)
   rw [if_neg (by omega),if_pos (Or.inr cb),Zit (inf5 F _)]
   simp [Ieee.Datum.product,h0,ZiK,flR]
   cases F.ng a <;> cases F.ng b <;> rfl
 ·have fa:=Znt ca
  have fb:=Znt cb
  rw [if_neg (by omega),if_neg (by omega),if_neg (by omega)]
  have hp : flR (fk F) ((Ieee.Datum.product (.number (F.ng a) m i) (.number (F.ng b) m' i')).map (fk F).format.write) = .fl (fk F) (if m * m' = 0 then F.sgn (F.ng a ^^ F.ng b) else (rndW F 1 (mkD (F.ng a ^^ F.ng b) (m * m') (i + i'))).1):=by
   rw [← ZsF]; rfl
  rw [hp]
  have hx : (F.ng a ^^ F.ng b) = (F.ng a != F.ng b):=by cases F.ng a <;> cases F.ng b <;> rfl
  by_cases h0 : m * m' = 0
  ·have hc : F.cls a = 1∨F.cls b = 1:=by
    rcases Nat.mul_eq_zero.1 h0 with q | q
    ·exact Or.inl (z1.2 q)
    ·exact Or.inr (z2.2 q)
   rw [if_pos h0,if_pos hc,Zit (sgn5 F _),hx]
  ·have hm : m≠0:=fun q => h0 (by rw [q,Nat.zero_mul])
   have hm' : m'≠0:=fun q => h0 (by rw [q,Nat.mul_zero])
   have hc : ¬ (F.cls a = 1∨F.cls b = 1):=fun q => q.elim (fun r => hm (z1.1 r)) (fun r => hm' (z2.1 r))
   rw [if_neg h0,if_neg hc,Zit (sum5 F (by decide) (by decide) _),ev,ev',hx]
   have e3 : mkD (F.ng a != F.ng b) (m * m') (i + i') = mulD (mkD (F.ng a) m i) (mkD (F.ng b) m' i'):=by
    obtain ⟨a1,a2⟩:=Zcj (a:=mkD (F.ng a) m i) (b:=mkD (F.ng b) m' i') (K:=i) (L:=i') (Zdd (Int.le_refl _)) (Zdd (Int.le_refl _))
    refine ZrV (L:=i + i') (ZlO _ _ _) (Zci _ _) (Zdd (Int.le_refl _)) a2 ?_
    rw [a1,Zia (Int.le_refl _),Zia (Int.le_refl _),Zia (Int.le_refl _),Int.sub_self,Int.sub_self,Int.sub_self,show ((0 : Int)).toNat = 0 from rfl,Nat.pow_zero,Nat.mul_one,Nat.mul_one,Nat.mul_one]
    push_cast
    generalize (m : Int) = x
    generalize (m' : Int) = y
    cases F.ng a <;> cases F.ng b <;> simp [Int.mul_neg,Int.neg_mul]
   rw [e3]
   unfold sumW
   have hm0 : (mulD (mkD (F.ng a) m i) (mkD (F.ng b) m' i')).m≠0:=by rw [← e3]; exact fun r => h0 (ZrN.1 r)
   rw [if_neg hm0]
def Fm.win : Fm→Nat
 | .s => 20
 | .d => 200
def Fm.wlo : Fm→Nat
 | .s => 107
 | .d => 823
def Fm.whi : Fm→Nat
 | .s => 147
 | .d => 1223
def inW (F : Fm) (w : Nat) : Prop:=F.wlo≤F.ex w∧F.ex w≤F.whi
instance (F : Fm) (w : Nat) : Decidable (inW F w):=inferInstanceAs (Decidable (_∧_))
theorem ZdF (hM : HasM g T) (F : Fm) : run G T 338 [.int .u8 F.u] = some (.tup [.int .i64 (F.win : Int),.int .i64 0]):=by
 rw [Zab G T hM.ZdF]
 cases F
 ·show _ = some (AV.tup [.int .i64 20,.int .i64 0])
  simp only [Fm.u]
  repeat' (first|simp (maxSteps:=9^7) only [seval,exC,ZcO]|simp (maxSteps:=9^7) (disch:=first|with_reducible assumption|omega) only [dxB]|(simp only [kdB];split)|(simp only [kvB];split))
 ·show _ = some (AV.tup [.int .i64 200,.int .i64 0])
  simp only [Fm.u]
  repeat' (first|simp (maxSteps:=9^7) only [seval,exC,ZcO]|simp (maxSteps:=9^7) (disch:=first|with_reducible assumption|omega) only [dxB]|(simp only [kdB];split)|(simp only [kvB];split))
theorem ZhW (hM : HasM g T) {f : Int} (h : ¬ (f = 1∨f = 2)) : run G T 338 [.int .u8 f] = some (.tup [.int .i64 0,.int .i64 4]):=by
 rw [Zab G T hM.ZdF]
 have h1 : ¬ f = 1:=fun q => h (Or.inl q)
 have h2 : ¬ f = 2:=fun q => h (Or.inr q)
 repeat' (first|simp (maxSteps:=9^7) only [seval,exC,ZcO,h1,h2]|simp (maxSteps:=9^7) (disch:=first|with_reducible assumption|omega) only [dxB]|(simp only [kdB];split)|(simp only [kvB];split))
theorem ZhI (hM : HasM g T) (F : Fm) : run G T 340 [.int .u8 F.u] = some (.int .i64 (F.win : Int)):=by
 rw [Zab G T hM.ZhI]
 cases F
 ·show _ = some (AV.int .i64 20)
  simp only [Fm.u]
  repeat' (first|simp (maxSteps:=9^7) only [seval,exC,Zdp]|simp (maxSteps:=9^7) (disch:=first|with_reducible assumption|omega) only [dxB]|(simp only [kdB];split)|(simp only [kvB];split))
 ·show _ = some (AV.int .i64 200)
  simp only [Fm.u]
  repeat' (first|simp (maxSteps:=9^7) only [seval,exC,Zdp]|simp (maxSteps:=9^7) (disch:=first|with_reducible assumption|omega) only [dxB]|(simp only [kdB];split)|(simp only [kvB];split))
theorem ZFu (F : Fm) : F.ex (F.inf false) = F.most:=by cases F <;> decide
theorem ZhZ (e : Env) (h : Heap) : evL G T ZjU e h = kS G T (evL G T ZaS (keepE [0,6,11,13,48,49] e) h) ZjU:=Zad G T rfl e h
theorem Zlr (x y : AV) : indexV false 2 1 (.agg [x,y]) (.int .i64 0) = some x:=rfl
theorem Zls (x y : AV) : indexV false 2 1 (.agg [x,y]) (.int .i64 1) = some y:=rfl
theorem f311 (x y z : AV) : fieldA false 1 1 (.agg [x,y,z]) = some y:=rfl
theorem Zxh {r : Bool} {p : Prop} (h : r = true↔p) : (p→r = true)∧(¬ p→r = false):=⟨h.2,fun q => by cases r; rfl; exact absurd (h.1 rfl) q⟩
set_option maxHeartbeats 4000000 in
theorem Znc (J : Al G T g) (hM : HasM g T) (F : Fm) {a b : Nat} (ha : a < 2 * F.sg) (hb : b < 2 * F.sg) : run G T 339 [.int .u8 F.u,zA a b] = some (.tup [.bool (decide (inW F a∧inW F b)),.int .i64 0]):=by
 have hr : decide (inW F a∧inW F b) = true↔((F.wlo≤F.ex a∧F.ex a≤F.whi)∧F.wlo≤F.ex b∧F.ex b≤F.whi):=decide_eq_true_iff
 generalize decide (inW F a∧inW F b) = r at *
 have hr:=Zxh hr
 rw [Zab G T hM.Znc]
 have w1:=ZdF (G:=G) hM F
 have p1:=Zmr J F (Zbx ha) (Zbx hb)
 rw [if_pos ⟨ha,hb⟩] at p1
 have i1:=ZjS J F (n:=false)
 have s0:=Zfd J F (w:=F.inf false) (by cases F <;> decide)
 rw [ZFu] at s0
 have s1:=Zfd J F ha
 have s2:=Zfd J F hb
 generalize F.inf false = inf at *
 generalize F.ng inf = n0 at *
 generalize F.fc inf = c0 at *
 generalize F.ng a = n1 at *
 generalize F.fc a = c1 at *
 generalize F.ng b = n2 at *
 generalize F.fc b = c2 at *
 generalize F.ex a = x at *
 generalize F.ex b = y at *
 have hm : F.most = 255∧F.win = 20∧F.wlo = 107∧F.whi = 147∨F.most = 2047∧F.win = 200∧F.wlo = 823∧F.whi = 1223:=by cases F <;> decide
 clear ha hb
 generalize F.most = mo at *
 generalize F.win = wi at *
 generalize F.wlo = lo at *
 generalize F.whi = hi at *
 generalize F.u = fu at *
 rcases hm with ⟨rfl,rfl,rfl,rfl⟩ | ⟨rfl,rfl,rfl,rfl⟩
 ·by_cases h1 : (x : Int) < 107
  ·obtain rfl:=hr.2 (by omega)
   simp only [zA,fldA,Int.cast_ofNat_Int] at *
   repeat' (first|simp (maxSteps:=9^7) only [seval,exC,Zbv,ZhZ,ZaS,Zlr,Zls,w1,p1,i1,s0,s1,h1]|simp (maxSteps:=9^7) (disch:=first|with_reducible assumption|omega) only [dxB]|(simp only [kdB];split)|(simp only [kvB];split))
  ·by_cases h2 : (147 : Int) < x
   ·obtain rfl:=hr.2 (by omega)
    simp only [zA,fldA,Int.cast_ofNat_Int] at *
    repeat' (first|simp (maxSteps:=9^7) only [seval,exC,Zbv,ZhZ,ZaS,Zlr,Zls,w1,p1,i1,s0,s1,h1,h2]|simp (maxSteps:=9^7) (disch:=first|with_reducible assumption|omega) only [dxB]|(simp only [kdB];split)|(simp only [kvB];split))
   ·by_cases h3 : (y : Int) < 107
    ·obtain rfl:=hr.2 (by omega)
     simp only [zA,fldA,Int.cast_ofNat_Int] at *
     repeat' (first|simp (maxSteps:=9^7) only [seval,exC,Zbv,ZhZ,ZaS,Zlr,Zls,w1,p1,i1,s0,s1,s2,h1,h2,h3]|simp (maxSteps:=9^7) (disch:=first|with_reducible assumption|omega) only [dxB]|(simp only [kdB];split)|(simp only [kvB];split))
    ·by_cases h4 : (147 : Int) < y
     ·obtain rfl:=hr.2 (by omega)
      simp only [zA,fldA,Int.cast_ofNat_Int] at *
      repeat' (first|simp (maxSteps:=9^7) only [seval,exC,Zbv,ZhZ,ZaS,Zlr,Zls,w1,p1,i1,s0,s1,s2,h1,h2,h3,h4]|simp (maxSteps:=9^7) (disch:=first|with_reducible assumption|omega) only [dxB]|(simp only [kdB];split)|(simp only [kvB];split))
     ·obtain rfl:=hr.1 (by omega)
      simp only [zA,fldA,Int.cast_ofNat_Int] at *
      repeat' (first|simp (maxSteps:=9^7) only [seval,exC,Zbv,ZhZ,ZaS,Zlr,Zls,w1,p1,i1,s0,s1,s2,h1,h2,h3,h4]|simp (maxSteps:=9^7) (disch:=first|with_reducible assumption|omega) only [dxB]|(simp only [kdB];split)|(simp only [kvB];split))
 ·by_cases h1 : (x : Int) < 823
  ·obtain rfl:=hr.2 (by omega)
   simp only [zA,fldA,Int.cast_ofNat_Int] at *
   repeat' (first|simp (maxSteps:=9^7) only [seval,exC,Zbv,ZhZ,ZaS,Zlr,Zls,w1,p1,i1,s0,s1,h1]|simp (maxSteps:=9^7) (disch:=first|with_reducible assumption|omega) only [dxB]|(simp only [kdB];split)|(simp only [kvB];split))
  ·by_cases h2 : (1223 : Int) < x
   ·obtain rfl:=hr.2 (by omega)
    simp only [zA,fldA,Int.cast_ofNat_Int] at *
    repeat' (first|simp (maxSteps:=9^7) only [seval,exC,Zbv,ZhZ,ZaS,Zlr,Zls,w1,p1,i1,s0,s1,h1,h2]|simp (maxSteps:=9^7) (disch:=first|with_reducible assumption|omega) only [dxB]|(simp only [kdB];split)|(simp only [kvB];split))
   ·by_cases h3 : (y : Int) < 823
    ·obtain rfl:=hr.2 (by omega)
     simp only [zA,fldA,Int.cast_ofNat_Int] at *
     repeat' (first|simp (maxSteps:=9^7) only [seval,exC,Zbv,ZhZ,ZaS,Zlr,Zls,w1,p1,i1,s0,s1,s2,h1,h2,h3]|simp (maxSteps:=9^7) (disch:=first|with_reducible assumption|omega) only [dxB]|(simp only [kdB];split)|(simp only [kvB];split))
    ·by_cases h4 : (1223 : Int) < y
     ·obtain rfl:=hr.2 (by omega)
      simp only [zA,fldA,Int.cast_ofNat_Int] at *
      repeat' (first|simp (maxSteps:=9^7) only [seval,exC,Zbv,ZhZ,ZaS,Zlr,Zls,w1,p1,i1,s0,s1,s2,h1,h2,h3,h4]|simp (maxSteps:=9^7) (disch:=first|with_reducible assumption|omega) only [dxB]|(simp only [kdB];split)|(simp only [kvB];split))
     ·obtain rfl:=hr.1 (by omega)
      simp only [zA,fldA,Int.cast_ofNat_Int] at *
      repeat' (first|simp (maxSteps:=9^7) only [seval,exC,Zbv,ZhZ,ZaS,Zlr,Zls,w1,p1,i1,s0,s1,s2,h1,h2,h3,h4]|simp (maxSteps:=9^7) (disch:=first|with_reducible assumption|omega) only [dxB]|(simp only [kdB];split)|(simp only [kvB];split))
theorem Zou (J : Al G T g) (hM : HasM g T) (F : Fm) {a b : Nat} (ha : a < 18446744073709551616) (hb : b < 18446744073709551616) (h : ¬ (a < 2 * F.sg∧b < 2 * F.sg)) : run G T 339 [.int .u8 F.u,zA a b] = some (.tup [.bool false,.int .i64 6]):=by
 rw [Zab G T hM.Znc]
 have w1:=ZdF (G:=G) hM F
 have p1:=Zmr J F ha hb
 rw [if_neg h] at p1
 generalize (F.win : Int) = wi at *
 simp only [zA] at *
 repeat' (first|simp (maxSteps:=9^7) only [seval,exC,Zbv,w1,p1]|simp (maxSteps:=9^7) (disch:=first|with_reducible assumption|omega) only [dxB]|(simp only [kdB];split)|(simp only [kvB];split))
theorem Zwf (hM : HasM g T) {f : Int} (h : ¬ (f = 1∨f = 2)) {a b : Nat} : run G T 339 [.int .u8 f,zA a b] = some (.tup [.bool false,.int .i64 4]):=by
 rw [Zab G T hM.Znc]
 have w1:=ZhW (G:=G) hM h
 simp only [zA] at *
 repeat' (first|simp (maxSteps:=9^7) only [seval,exC,Zbv,w1]|simp (maxSteps:=9^7) (disch:=first|with_reducible assumption|omega) only [dxB]|(simp only [kdB];split)|(simp only [kvB];split))
theorem ZnR (J : Al G T g) (hM : HasM g T) (F : Fm) {w : Nat} (hw : w < 18446744073709551616) : run G T 364 [.int .u8 F.u,.int .u64 (w : Int)] = some (.bool (decide (inW F w))):=by
 have hr : decide (inW F w) = true↔(F.wlo≤F.ex w∧F.ex w≤F.whi):=decide_eq_true_iff
 generalize decide (inW F w) = r at *
 have hr:=Zxh hr
 rw [Zab G T hM.ZnR]
 have s1:=Zch J F hw
 have c1:=ZaR J F hw
 have m1:=Zfb J F
 have w1:=ZhI (G:=G) hM F
 have hc : F.cls w = 3↔(F.ex w≠0∧F.ex w < F.most):=by
  unfold Fm.cls
  by_cases h0 : F.ex w = 0
  ·rw [if_pos h0]; split <;> simp [h0]
  ·rw [if_neg h0]
   by_cases h1 : F.ex w < F.most
   ·rw [if_pos h1]; simp [h0,h1]
   ·rw [if_neg h1]; split <;> simp [h1]
 generalize F.ng w = n1 at *
 generalize F.fc w = c1' at *
 generalize F.cls w = cl at *
 generalize F.ex w = x at *
 have hm : F.most = 255∧F.win = 20∧F.wlo = 107∧F.whi = 147∨F.most = 2047∧F.win = 200∧F.wlo = 823∧F.whi = 1223:=by cases F <;> decide
 clear hw
 generalize F.most = mo at *
 generalize F.win = wi at *
 generalize F.wlo = lo at *
 generalize F.whi = hi at *
 generalize F.u = fu at *
 rcases hm with ⟨rfl,rfl,rfl,rfl⟩ | ⟨rfl,rfl,rfl,rfl⟩
 ·have e1 : IntKind.i64.wrap ((x : Int) - 127) = (x : Int) - 127∨9000 < x:=by
   by_cases h : 9000 < x
   ·exact Or.inr h
   ·exact Or.inl (Zae (by omega))
  by_cases h3 : cl = 3
  ·have:=hc.1 h3
   have e1 : IntKind.i64.wrap ((x : Int) - 127) = (x : Int) - 127:=Zae (by omega)
   by_cases h1 : -20≤(x : Int) - 127
   ·by_cases h2 : (x : Int) - 127≤20
    ·obtain rfl:=hr.1 (by omega)
     simp only [fldA,Int.cast_ofNat_Int] at *
     repeat' (first|simp (maxSteps:=9^7) only [seval,exC,ZbT,f311,s1,c1,m1,w1,e1,h3,h1,h2]|simp (maxSteps:=9^7) (disch:=first|with_reducible assumption|omega) only [dxB]|(simp only [kdB];split)|(simp only [kvB];split))
    ·obtain rfl:=hr.2 (by omega)
     simp only [fldA,Int.cast_ofNat_Int] at *
     repeat' (first|simp (maxSteps:=9^7) only [seval,exC,ZbT,f311,s1,c1,m1,w1,e1,h3,h1,h2]|simp (maxSteps:=9^7) (disch:=first|with_reducible assumption|omega) only [dxB]|(simp only [kdB];split)|(simp only [kvB];split))
   ·obtain rfl:=hr.2 (by omega)
    simp only [fldA,Int.cast_ofNat_Int] at *
    repeat' (first|simp (maxSteps:=9^7) only [seval,exC,ZbT,f311,s1,c1,m1,w1,e1,h3,h1]|simp (maxSteps:=9^7) (disch:=first|with_reducible assumption|omega) only [dxB]|(simp only [kdB];split)|(simp only [kvB];split))
  ·obtain rfl:=hr.2 (fun q => h3 (hc.2 (by omega)))
   simp only [fldA,Int.cast_ofNat_Int] at *
   repeat' (first|simp (maxSteps:=9^7) only [seval,exC,ZbT,f311,s1,c1,m1,w1,h3]|simp (maxSteps:=9^7) (disch:=first|with_reducible assumption|omega) only [dxB]|(simp only [kdB];split)|(simp only [kvB];split))
 ·have e1 : IntKind.i64.wrap ((x : Int) - 1023) = (x : Int) - 1023∨9000 < x:=by
   by_cases h : 9000 < x
   ·exact Or.inr h
   ·exact Or.inl (Zae (by omega))
  by_cases h3 : cl = 3
  ·have:=hc.1 h3
   have e1 : IntKind.i64.wrap ((x : Int) - 1023) = (x : Int) - 1023:=Zae (by omega)
   by_cases h1 : -200≤(x : Int) - 1023
   ·by_cases h2 : (x : Int) - 1023≤200
    ·obtain rfl:=hr.1 (by omega)
     simp only [fldA,Int.cast_ofNat_Int] at *
     repeat' (first|simp (maxSteps:=9^7) only [seval,exC,ZbT,f311,s1,c1,m1,w1,e1,h3,h1,h2]|simp (maxSteps:=9^7) (disch:=first|with_reducible assumption|omega) only [dxB]|(simp only [kdB];split)|(simp only [kvB];split))
    ·obtain rfl:=hr.2 (by omega)
     simp only [fldA,Int.cast_ofNat_Int] at *
     repeat' (first|simp (maxSteps:=9^7) only [seval,exC,ZbT,f311,s1,c1,m1,w1,e1,h3,h1,h2]|simp (maxSteps:=9^7) (disch:=first|with_reducible assumption|omega) only [dxB]|(simp only [kdB];split)|(simp only [kvB];split))
   ·obtain rfl:=hr.2 (by omega)
    simp only [fldA,Int.cast_ofNat_Int] at *
    repeat' (first|simp (maxSteps:=9^7) only [seval,exC,ZbT,f311,s1,c1,m1,w1,e1,h3,h1]|simp (maxSteps:=9^7) (disch:=first|with_reducible assumption|omega) only [dxB]|(simp only [kdB];split)|(simp only [kvB];split))
  ·obtain rfl:=hr.2 (fun q => h3 (hc.2 (by omega)))
   simp only [fldA,Int.cast_ofNat_Int] at *
   repeat' (first|simp (maxSteps:=9^7) only [seval,exC,ZbT,f311,s1,c1,m1,w1,h3]|simp (maxSteps:=9^7) (disch:=first|with_reducible assumption|omega) only [dxB]|(simp only [kdB];split)|(simp only [kvB];split))
theorem ZmD (J : Al G T g) (hM : HasM g T) (F : Fm) {a b : Nat} (ha : a < 18446744073709551616) (hb : b < 18446744073709551616) : run G T 332 [.int .u8 F.u,zA a b] = some (.bool (decide (inW F a∧inW F b))):=by
 rw [Zab G T hM.ZmD]
 have h1:=ZnR J hM F ha
 have h2:=ZnR J hM F hb
 by_cases ca : inW F a
 ·rw [decide_eq_true ca] at h1
  by_cases cb : inW F b
  ·rw [decide_eq_true cb] at h2
   rw [decide_eq_true ⟨ca,cb⟩]
   simp only [zA] at *
   repeat' (first|simp (maxSteps:=9^7) only [seval,exC,Zgv,h1,h2]|simp (maxSteps:=9^7) (disch:=first|with_reducible assumption|omega) only [dxB]|(simp only [kdB];split)|(simp only [kvB];split))
  ·rw [decide_eq_false cb] at h2
   rw [decide_eq_false (fun q => cb q.2)]
   simp only [zA] at *
   repeat' (first|simp (maxSteps:=9^7) only [seval,exC,Zgv,h1,h2]|simp (maxSteps:=9^7) (disch:=first|with_reducible assumption|omega) only [dxB]|(simp only [kdB];split)|(simp only [kvB];split))
 ·rw [decide_eq_false ca] at h1
  rw [decide_eq_false (fun q => ca q.1)]
  simp only [zA] at *
  repeat' (first|simp (maxSteps:=9^7) only [seval,exC,Zgv,h1]|simp (maxSteps:=9^7) (disch:=first|with_reducible assumption|omega) only [dxB]|(simp only [kdB];split)|(simp only [kvB];split))
end Go.Cv
namespace Go.Cv
variable {G : Nat→Option (List AV)} {T : Tbl} {g : Nat}
def nckA : AV→Option AV
 | .ptr b o => some (.ptr b o)
 | .iptr cs o => some (.iptr cs o)
 | .gptr g o => some (.gptr g o)
 | _ => none
def eqnA (neg : Bool) : AV→Option AV
 | .np => some (.bool !neg)
 | .ptr _ _ => some (.bool neg)
 | .iptr _ _ => some (.bool neg)
 | .gptr _ _ => some (.bool neg)
 | _ => none
section
variable (F : CallF) (d : Option Nat) (os : List IOper) (e : Env) (h : Heap)
theorem ZCQ (x : IOpd) : evOps G F (⟨d,.nck x,none⟩ :: os) e h = kV G F (nckA (opd e x)) d os e h:=by
 rw [Zbo G F d _ os e h rfl (nckA (opd e x))]
 simp only [evQ]; cases opd e x <;> rfl
theorem ZCL (neg : Bool) (x : IOpd) : evOps G F (⟨d,.eqn neg x,none⟩ :: os) e h = kV G F (eqnA neg (opd e x)) d os e h:=by
 rw [Zbo G F d _ os e h rfl (eqnA neg (opd e x))]
 simp only [evQ]; cases opd e x <;> rfl
theorem Zzl (op : BinOp) (k : FloatKind) (x y : IOpd) : evOps G F (⟨d,.fbin op k x y,none⟩ :: os) e h = kV G F (evFl op k (opd e x) (opd e y)) d os e h:=Zbo G F d _ os e h rfl _ rfl
theorem ZCN (s k : FloatKind) (x : IOpd) : evOps G F (⟨d,.fcv s k x,none⟩ :: os) e h = kV G F (evFcv s k (opd e x)) d os e h:=Zbo G F d _ os e h rfl _ rfl
end
theorem ZGl (b o : Nat) : nckA (.ptr b o) = some (.ptr b o):=rfl
theorem ZBC : eqnA false .np = some (.bool true):=rfl
theorem ZFr (b o : Nat) : eqnA false (.ptr b o) = some (.bool false):=rfl
theorem ZGO (g : Nat→Nat→Nat→Nat→Option AV) : snapA g .np = some .np:=by simp only [snapA]
theorem ZGN (g : Nat→Nat→Nat→Nat→Option AV) : snapA g .nf = some .nf:=by simp only [snapA]
theorem ZCB (g : Nat→Nat→Nat→Nat→Option AV) (k : FloatKind) : snapA g (.nan k) = some (.nan k):=by simp only [snapA]
theorem ZBK (h : Mem) (r : AV) (args : List AV) : frz h r (.np :: args) = frz h r args:=by simp [frz,reachL,reachA]
theorem ZBJ (h : Mem) (r : AV) (args : List AV) : frz h r (.nf :: args) = frz h r args:=by simp [frz,reachL,reachA]
theorem ZxQ (h : Mem) (r : AV) (k : FloatKind) (args : List AV) : frz h r (.nan k :: args) = frz h r args:=by simp [frz,reachL,reachA]
theorem ZCh : okCell .nf = true:=rfl
theorem ZFd : cellsA .nf = [.nf]:=rfl
theorem ZFe : cellsA .np = [.np]:=rfl
theorem ZFA (k : FloatKind) (a b : Nat) : evFl .mul k (.fl k a) (.fl k b) = some (flR k (k.format.mul a b)):=if_pos ⟨rfl,rfl⟩
theorem ZFz (k : FloatKind) (a b : Nat) : evFl .add k (.fl k a) (.fl k b) = some (flR k (k.format.add a b)):=if_pos ⟨rfl,rfl⟩
theorem ZFB (k : FloatKind) (a b : Nat) : evFl .sub k (.fl k a) (.fl k b) = some (flR k (k.format.sub a b)):=if_pos ⟨rfl,rfl⟩
theorem fcB : type_of% (And.intro (And.intro (And.intro @ZCQ @ZCL) (And.intro @Zzl @ZCN)) (And.intro (And.intro (And.intro @ZGl @ZBC) (And.intro @ZFr @ZGO)) (And.intro (And.intro (And.intro @ZGN @ZCB) (And.intro @ZBK @ZBJ)) (And.intro (And.intro @ZxQ @ZCh) (And.intro @ZFd @ZFe))))):=And.intro (And.intro (And.intro @ZCQ @ZCL) (And.intro @Zzl @ZCN)) (And.intro (And.intro (And.intro @ZGl @ZBC) (And.intro @ZFr @ZGO)) (And.intro (And.intro (And.intro @ZGN @ZCB) (And.intro @ZBK @ZBJ)) (And.intro (And.intro @ZxQ @ZCh) (And.intro @ZFd @ZFe))))
section
variable (hL : HasL g T)
 include hL
theorem Zum (w : Nat) : run G T 373 [.int .u64 (w : Int)] = some (.fl .f64 w):=by
 rw [Zab G T hL.math_Float64frombits]
 show kE G _ (evL G T (.prim .of64) _ _) = _
 rw [Zjy]; rfl
theorem Zul (w : Nat) : run G T 374 [.fl .f64 w] = some (.int .u64 (w : Int)):=by
 rw [Zab G T hL.math_Float64bits]
 show kE G _ (evL G T (.prim .b64) _ _) = _
 rw [Zjy]; rfl
theorem ZFy (w : Nat) : run G T 370 [.int .u32 (w : Int)] = some (.fl .f32 w):=by
 rw [Zab G T hL.math_Float32frombits]
 show kE G _ (evL G T (.prim .of32) _ _) = _
 rw [Zjy]; rfl
theorem Zuk (w : Nat) : run G T 371 [.fl .f32 w] = some (.int .u32 (w : Int)):=by
 rw [Zab G T hL.math_Float32bits]
 show kE G _ (evL G T (.prim .b32) _ _) = _
 rw [Zjy]; rfl
theorem ZGe (w : Nat) : run G T 392 [.fl .f64 w] = some (flR .f64 (FloatKind.f64.format.sqrt w)):=by
 rw [Zab G T hL.math_sqrt]
 show kE G _ (evL G T (.prim .sqrt) _ _) = _
 rw [Zjy]
 show kE G _ (some (Ex.norm,putE (some 9) (flR .f64 (FloatKind.f64.format.sqrt w)) (numE 0 [AV.fl FloatKind.f64 w]),Heap.nil)) = _
 cases FloatKind.f64.format.sqrt w <;> rfl
end
theorem ZrM (hL : HasL g T) (hM : HasM g T) (w : Nat) : run G T 372 [.fl .f64 w] = some (flR .f64 (FloatKind.f64.format.sqrt w)):=by
 rw [Zab G T hM.ZrM]
 have h1:=ZGe (G:=G) hL w
 have h2 : ∀ g,snapA g (flR .f64 (FloatKind.f64.format.sqrt w)) = some (flR .f64 (FloatKind.f64.format.sqrt w)):=by intro g; cases FloatKind.f64.format.sqrt w <;> simp only [flR,snapA]
 generalize flR .f64 (FloatKind.f64.format.sqrt w) = r at *
 repeat' (first|simp (maxSteps:=9^7) only [seval,exC,ZiT,h1,h2]|simp (maxSteps:=9^7) (disch:=first|with_reducible assumption|omega) only [dxB]|(simp only [kdB];split)|(simp only [kvB];split))
theorem ZEO (hL : HasL g T) {bs : List Blk} {f : List Nat} {b off : Nat} {n : Int} (h : rdBlk (Heap.mem ⟨bs,f⟩) b off 1 = some [.int .u64 n]) :
  kJ G Zbg.res (evL G T Zbg.body [(0,.ptr b off)] ⟨bs,f⟩) = some (.int .u64 n,⟨bs,f⟩):=by
 show kJ G _ (evL G T (.prim .ald) _ _) = _
 rw [Zjy,evPrim,h]; rfl
theorem ZDj (hL : HasL g T) {bs : List Blk} {f : List Nat} {b off : Nat} {n d : Int} {h' : Heap} (h : rdBlk (Heap.mem ⟨bs,f⟩) b off 1 = some [.int .u64 n]) (hw : wrBlk ⟨bs,f⟩ b off [.int .u64 (IntKind.u64.wrap (n + d))] = some h') :
  kJ G Zbn.res (evL G T Zbn.body [(0,.ptr b off),(1,.int .u64 d)] ⟨bs,f⟩) = some (.int .u64 (IntKind.u64.wrap (n + d)),h'):=by
 show kJ G _ (evL G T (.prim .aadd) _ _) = _
 rw [Zjy,evPrim,h]
 simp only [hw]; rfl
def engB (f : Int) (n : Nat) : Blk:=⟨[.int .u8 f,.int .u64 (n : Int)],false⟩
theorem ZsQ {bs : List Blk} {k n : Nat} {f : Int} (h : bs[k]? = some (engB f n)) : rdAt G (Heap.mem ⟨bs,[]⟩) 1 (.ptr k 0) = some [.int .u8 f]:=by
 rw [ZyR,h]; rfl
theorem ZxA {bs : List Blk} {k n : Nat} {f : Int} (h : bs[k]? = some (engB f n)) : rdBlk (Heap.mem ⟨bs,[]⟩) k 1 1 = some [.int .u64 (n : Int)]:=by
 rw [ZoR,h]; rfl
theorem ZFo {bs : List Blk} {k n m : Nat} {f : Int} (h : bs[k]? = some (engB f n)) : wrBlk ⟨bs,[]⟩ k 1 [.int .u64 (m : Int)] = some ⟨bs.set k (engB f m),[]⟩:=by
 unfold wrBlk
 simp only [h,engB]
 rfl
theorem ZAf (hL : HasL g T) (hM : HasM g T) {bs : List Blk} {k n : Nat} {f : Int} (h : bs[k]? = some (engB f n)) :
  kJ G Zax.res (evL G T Zax.body [(0,.ptr k 1)] ⟨bs,[]⟩) = some (.int .u64 (n : Int),⟨bs,[]⟩):=by
 have h1:=ZEO (G:=G) hL (ZxA h)
 repeat' (first|simp (maxSteps:=9^7) only [seval,exC,Zax,fcB,ZaB G T hL.sync_atomic_LoadUint64,Zdf,h1]|simp (maxSteps:=9^7) (disch:=first|with_reducible assumption|omega) only [dxB]|(simp only [kdB];split)|(simp only [kvB];split))
theorem ZDC (hL : HasL g T) (hM : HasM g T) {bs : List Blk} {k n : Nat} {f : Int} (h : bs[k]? = some (engB f n)) (hn : n < 1000000) :
  kJ G Zap.res (evL G T Zap.body [(0,.ptr k 1),(1,.int .u64 1)] ⟨bs,[]⟩) = some (.int .u64 ((n + 1 : Nat) : Int),⟨bs.set k (engB f (n + 1)),[]⟩):=by
 have w : IntKind.u64.wrap ((n : Int) + 1) = ((n + 1 : Nat) : Int):=by rw [Zdz]; omega
 have h1:=ZDj (G:=G) (d:=1) hL (ZxA h) (by rw [w]; exact ZFo h)
 rw [w] at h1
 repeat' (first|simp (maxSteps:=9^7) only [seval,exC,Zap,fcB,ZaB G T hL.sync_atomic_AddUint64,Zdf,h1]|simp (maxSteps:=9^7) (disch:=first|with_reducible assumption|omega) only [dxB]|(simp only [kdB];split)|(simp only [kvB];split))
theorem Zoo (hL : HasL g T) (hM : HasM g T) {bs : List Blk} {k n : Nat} {f : Int} (h : bs[k]? = some (engB f n)) :
  kJ G Zao.res (evL G T Zao.body [(0,.ptr k 0)] ⟨bs,[]⟩) = some (.int .u64 (n : Int),⟨bs,[]⟩):=by
 have h1:=ZAf (G:=G) hL hM h
 repeat' (first|simp (maxSteps:=9^7) only [seval,exC,Zao,fcB,ZaB G T hM.sync_atomic_Uint64_Load,Zdf,h1]|simp (maxSteps:=9^7) (disch:=first|with_reducible assumption|omega) only [dxB]|(simp only [kdB];split)|(simp only [kvB];split))
theorem Zrw (hM : HasM g T) {h : Heap} :
  kJ G Zao.res (evL G T Zao.body [(0,.np)] h) = some (.int .u64 0,h):=by
 repeat' (first|simp (maxSteps:=9^7) only [seval,exC,Zao,fcB]|simp (maxSteps:=9^7) (disch:=first|with_reducible assumption|omega) only [dxB]|(simp only [kdB];split)|(simp only [kvB];split))
theorem ZsP (hM : HasM g T) (F : Fm) {bs : List Blk} :
  kJ G ZcN.res (evL G T ZcN.body [(0,.int .u8 F.u)] ⟨bs,[]⟩) = some (.tup [.ptr bs.length 0,.int .i64 0],⟨bs ++ [engB F.u 0],[]⟩):=by
 have h1:=ZdF (G:=G) hM F
 generalize (F.win : Int) = w at *
 repeat' (first|simp (maxSteps:=9^7) only [seval,exC,ZcN,fcB,h1,engB]|simp (maxSteps:=9^7) (disch:=first|with_reducible assumption|omega) only [dxB]|(simp only [kdB];split)|(simp only [kvB];split))
theorem ZpF (hM : HasM g T) {f : Int} (h : ¬ (f = 1∨f = 2)) {bs : List Blk} :
  kJ G ZcN.res (evL G T ZcN.body [(0,.int .u8 f)] ⟨bs,[]⟩) = some (.tup [.np,.int .i64 4],⟨bs,[]⟩):=by
 have h1:=ZhW (G:=G) hM h
 repeat' (first|simp (maxSteps:=9^7) only [seval,exC,ZcN,fcB,h1]|simp (maxSteps:=9^7) (disch:=first|with_reducible assumption|omega) only [dxB]|(simp only [kdB];split)|(simp only [kvB];split))
end Go.Cv
namespace Go.Cv
variable {G : Nat→Option (List AV)} {T : Tbl} {g : Nat}
instance (F : Fm) (a : Nat × Nat) : Decidable (Zw F a):=inferInstanceAs (Decidable (_∧_))
instance (F : Fm) (l : List (Nat × Nat)) : Decidable (Zws F l):=inferInstanceAs (Decidable (∀ c ∈ l,Zw F c))
def inZ (F : Fm) (a : Nat × Nat) : Prop:=inW F a.1∧inW F a.2
instance (F : Fm) (a : Nat × Nat) : Decidable (inZ F a):=inferInstanceAs (Decidable (_∧_))
def inZs (F : Fm) (l : List (Nat × Nat)) : Prop:=∀ c ∈ l,inZ F c
instance (F : Fm) (l : List (Nat × Nat)) : Decidable (inZs F l):=inferInstanceAs (Decidable (∀ c ∈ l,inZ F c))
theorem Zmj {F : Fm} {a : Nat × Nat} {l : List (Nat × Nat)} : inZs F (a :: l)↔inZ F a∧inZs F l:=List.forall_mem_cons
theorem ZqB {F : Fm} : inZs F []:=by intro c hc; cases hc
theorem Ztc (e : Env) (h : Heap) : evL G T Zam e h = kS G T (evL G T ZaK (keepE [0,6,13,14,15] e) h) Zam:=Zad G T rfl e h
def neE (k j n : Nat) (all : Bool) (i : Nat) : Env:=[(0,.ptr k 0),(6,.bool all),(13,.own j 0 n 2),(14,.int .i64 (n : Int)),(15,.int .i64 (i : Int))]
def zblk (a : Nat × Nat) : Blk:=⟨[.int .u64 (a.1 : Int),.int .u64 (a.2 : Int)],false⟩
theorem Zuc (J : Al G T g) (hM : HasM g T) (F : Fm) {l : List (Nat × Nat)} {k j i n : Nat} {all : Bool} {bs : List Blk} (hl : l.length≤1000) (hi : i < l.length) (hw : Zw F (zc l i)) (hk : bs[k]? = some (engB F.u n)) (hj : bs[j]? = some ⟨zcells l,false⟩) :
  evL G T Zam (neE k j l.length all i) ⟨bs,[]⟩ = evL G T Zam (neE k j l.length (all && decide (inZ F (zc l i))) (i + 1)) ⟨bs ++ [zblk (zc l i)],[]⟩:=by
 have io:=ZBM (k:=j) (n:=l.length) (i:=i) hi
 have ro:=ZCr (G:=G) (f:=[]) (w:=[]) hi (by rw [List.append_nil]; exact hj)
 have r0 : rdAt G (Heap.mem ⟨bs ++ [zblk (zc l i)],[]⟩) 1 (.ptr k 0) = some [.int .u8 F.u]:=ZsQ (n:=n) (by rw [List.getElem?_append_left (List.getElem?_eq_some_iff.1 hk).1]; exact hk)
 have hi' : (i : Int) < (l.length : Int):=by omega
 have w1 : IntKind.i64.wrap ((i : Int) + 1) = ((i + 1 : Nat) : Int):=by rw [Zae (by omega)]; rfl
 have f1:=Znc J hM F hw.1 hw.2
 have e1 : decide (inW F (zc l i).1∧inW F (zc l i).2) = decide (inZ F (zc l i)):=rfl
 rw [e1] at f1
 generalize decide (inZ F (zc l i)) = r at *
 rw [Ztc]
 unfold zblk at *
 generalize zc l i = a at *
 unfold neE
 generalize F.u = fu at *
 simp only [zA] at *
 cases all
 ·repeat' (first|simp (maxSteps:=9^7) only [seval,exC,ZaK,fcB,gaB,io,ro,r0,hi',f1,w1,Bool.false_and]|simp (maxSteps:=9^7) (disch:=first|with_reducible assumption|omega) only [dxB]|(simp only [kdB];split)|(simp only [kvB];split))
 ·repeat' (first|simp (maxSteps:=9^7) only [seval,exC,ZaK,fcB,gaB,io,ro,r0,hi',f1,w1,Bool.false_and]|simp (maxSteps:=9^7) (disch:=first|with_reducible assumption|omega) only [dxB]|(simp only [kdB];split)|(simp only [kvB];split))
theorem ZDD (J : Al G T g) (hM : HasM g T) (F : Fm) {l : List (Nat × Nat)} {k j i n : Nat} {all : Bool} {bs : List Blk} (hl : l.length≤1000) (hi : i < l.length) (h64 : (zc l i).1 < 18446744073709551616∧(zc l i).2 < 18446744073709551616) (hw : ¬ Zw F (zc l i)) (hk : bs[k]? = some (engB F.u n)) (hj : bs[j]? = some ⟨zcells l,false⟩) :
  evL G T Zam (neE k j l.length all i) ⟨bs,[]⟩ = some (.ret,[(4,.bool false),(5,.int .i64 6)],⟨bs ++ [zblk (zc l i)],[]⟩):=by
 have io:=ZBM (k:=j) (n:=l.length) (i:=i) hi
 have ro:=ZCr (G:=G) (f:=[]) (w:=[]) hi (by rw [List.append_nil]; exact hj)
 have r0 : rdAt G (Heap.mem ⟨bs ++ [zblk (zc l i)],[]⟩) 1 (.ptr k 0) = some [.int .u8 F.u]:=ZsQ (n:=n) (by rw [List.getElem?_append_left (List.getElem?_eq_some_iff.1 hk).1]; exact hk)
 have hi' : (i : Int) < (l.length : Int):=by omega
 have f1:=Zou J hM F h64.1 h64.2 hw
 rw [Ztc]
 unfold zblk at *
 generalize zc l i = a at *
 unfold neE
 generalize F.u = fu at *
 simp only [zA] at *
 repeat' (first|simp (maxSteps:=9^7) only [seval,exC,ZaK,fcB,gaB,io,ro,r0,hi',f1]|simp (maxSteps:=9^7) (disch:=first|with_reducible assumption|omega) only [dxB]|(simp only [kdB];split)|(simp only [kvB];split))
theorem Zxy {k j n i : Nat} {all : Bool} {bs : List Blk} (h : n≤i) :
  evL G T Zam (neE k j n all i) ⟨bs,[]⟩ = some (.exit 0,[(0,.ptr k 0),(6,.bool all),(13,.own j 0 n 2),(14,.int .i64 (n : Int)),(15,.int .i64 (i : Int)),(16,.bool false)],⟨bs,[]⟩):=by
 have hi' : ¬ (i : Int) < (n : Int):=by omega
 rw [Ztc]
 unfold neE
 repeat' (first|simp (maxSteps:=9^7) only [seval,exC,ZaK,hi']|simp (maxSteps:=9^7) (disch:=first|with_reducible assumption|omega) only [dxB]|(simp only [kdB];split)|(simp only [kvB];split))
theorem ZrT (J : Al G T g) (hM : HasM g T) (F : Fm) {l : List (Nat × Nat)} {k j n : Nat} (hl : l.length≤1000) (h64 : W64 l) : ∀ (m i : Nat) (all : Bool) (bs : List Blk),i + m = l.length→bs[k]? = some (engB F.u n)→bs[j]? = some ⟨zcells l,false⟩ →
  ∃ bs',(Zws F (l.drop i)∧evL G T Zam (neE k j l.length all i) ⟨bs,[]⟩ = some (.exit 0,[(0,.ptr k 0),(6,.bool (all && decide (inZs F (l.drop i)))),(13,.own j 0 l.length 2),(14,.int .i64 (l.length : Int)),(15,.int .i64 (l.length : Int)),(16,.bool false)],⟨bs ++ bs',[]⟩)) ∨
   (¬ Zws F (l.drop i)∧evL G T Zam (neE k j l.length all i) ⟨bs,[]⟩ = some (.ret,[(4,.bool false),(5,.int .i64 6)],⟨bs ++ bs',[]⟩))
 | 0,i,all,bs,hm,hk,hj => by
  have hd : l.drop i = []:=List.drop_eq_nil_of_le (by omega)
  refine ⟨[],Or.inl ⟨by rw [hd]; exact ZwI,?_⟩⟩
  have : i = l.length:=by omega
  subst this
  rw [Zxy (Nat.le_refl _),hd,decide_eq_true (ZqB),Bool.and_true,List.append_nil]
 | m + 1,i,all,bs,hm,hk,hj => by
  have hi : i < l.length:=by omega
  have hd:=ZsN hi
  have hmem:=ZCX hi
  have kl:=(List.getElem?_eq_some_iff.1 hk).1
  have jl:=(List.getElem?_eq_some_iff.1 hj).1
  by_cases hw : Zw F (zc l i)
  ·obtain ⟨bs',h⟩:=ZrT J hM F hl h64 m (i + 1) (all && decide (inZ F (zc l i))) (bs ++ [zblk (zc l i)]) (by omega) (by rw [List.getElem?_append_left kl]; exact hk) (by rw [List.getElem?_append_left jl]; exact hj)
   rw [← Zuc J hM F hl hi hw hk hj,List.append_assoc] at h
   refine ⟨[zblk (zc l i)] ++ bs',?_⟩
   rw [hd,ZnB]
   refine h.imp (fun q => ⟨⟨hw,q.1⟩,?_⟩) (fun q => ⟨fun r => q.1 r.2,q.2⟩)
   rw [q.2]
   have e : (all && decide (inZ F (zc l i)) && decide (inZs F (l.drop (i + 1)))) = (all && decide (inZs F (zc l i :: l.drop (i + 1)))):=by
    rw [Bool.and_assoc]
    congr 1
    rw [← Bool.decide_and]
    exact decide_eq_decide.2 Zmj.symm
   rw [e]
  ·refine ⟨[zblk (zc l i)],Or.inr ⟨by rw [hd,ZnB]; exact fun q => hw q.1,ZDD J hM F hl hi (h64 _ hmem) hw hk hj⟩⟩
theorem ZAg (J : Al G T g) (hM : HasM g T) (F : Fm) {l : List (Nat × Nat)} {k j n : Nat} (hl : l.length≤1000) (h64 : W64 l) {bs : List Blk} (hk : bs[k]? = some (engB F.u n)) (hj : bs[j]? = some ⟨zcells l,false⟩) :
  ∃ bs',kJ G Zah.res (evL G T Zah.body [(0,.ptr k 0),(1,.own j 0 l.length 2)] ⟨bs,[]⟩) = some (if Zws F l then .tup [.bool (decide (inZs F l)),.int .i64 0] else .tup [.bool false,.int .i64 6],⟨bs ++ bs',[]⟩):=by
 obtain ⟨bs',h⟩:=ZrT J hM F (k:=k) (j:=j) (n:=n) hl h64 l.length 0 true bs (by omega) hk hj
 rw [List.drop_zero,Bool.true_and] at h
 refine ⟨bs',?_⟩
 unfold neE at h
 simp only [cast0] at h
 rcases h with ⟨hz,lp⟩ | ⟨hz,lp⟩
 ·rw [if_pos hz]
  generalize decide (inZs F (l)) = r at *
  repeat' (first|simp (maxSteps:=9^7) only [seval,exC,Zah,fcB,lp]|simp (maxSteps:=9^7) (disch:=first|with_reducible assumption|omega) only [dxB]|(simp only [kdB];split)|(simp only [kvB];split))
 ·rw [if_neg hz]
  repeat' (first|simp (maxSteps:=9^7) only [seval,exC,Zah,fcB,lp]|simp (maxSteps:=9^7) (disch:=first|with_reducible assumption|omega) only [dxB]|(simp only [kdB];split)|(simp only [kvB];split))
theorem Zyw (hM : HasM g T) {v : AV} {h : Heap} :
  kJ G Zah.res (evL G T Zah.body [(0,.np),(1,v)] h) = some (.tup [.bool false,.int .i64 1],h):=by
 repeat' (first|simp (maxSteps:=9^7) only [seval,exC,Zah,fcB]|simp (maxSteps:=9^7) (disch:=first|with_reducible assumption|omega) only [dxB]|(simp only [kdB];split)|(simp only [kvB];split))
end Go.Cv
namespace Go.Cv
variable {G : Nat→Option (List AV)} {T : Tbl} {g : Nat}
def fsel (F : Fm) (p q : Nat) : Nat:=match F with
 | .s => p
 | .d => q
def opA (p q : Nat) : AV:=.agg [.fn p [],.fn q []]
def flA (F : Fm) (a : Nat) : AV:=.fl (fk F) a
theorem ZuR (hM : HasM g T) (hL : HasL g T) {a : Nat} (ha : a < 4294967296) : run G T 398 [.int .u64 (a : Int)] = some (.fl .f32 a):=by
 rw [Zab G T hM.fast_op_do_1]
 have w1 : IntKind.u32.wrap (a : Int) = (a : Int):=by rw [Zlm]; omega
 have h1:=ZFy (G:=G) hL a
 repeat' (first|simp (maxSteps:=9^7) only [seval,exC,Zfg,fcB,w1,h1]|simp (maxSteps:=9^7) (disch:=first|with_reducible assumption|omega) only [dxB]|(simp only [kdB];split)|(simp only [kvB];split))
theorem ZHE (hM : HasM g T) (hL : HasL g T) (F : Fm) {p q a b c d x y : Nat} (ha : a < 2 * F.sg) (hb : b < 2 * F.sg) (hc : c < 2 * F.sg) (hd : d < 2 * F.sg) (hx : x < 2 * F.sg) (hy : y < 2 * F.sg)
  (h : run G T (fsel F p q) [flA F a,flA F b,flA F c,flA F d] = some (.tup [flA F x,flA F y])) :
  run G T 388 [opA p q,.int .u8 F.u,zA a b,zA c d] = some (zA x y):=by
 rw [Zab G T hM.fast_op_do]
 cases F
 ·have s : 2 * Fm.s.sg = 4294967296:=rfl
  rw [s] at ha hb hc hd hx hy
  have h1:=ZuR (G:=G) hM hL ha
  have h2:=ZuR (G:=G) hM hL hb
  have h3:=ZuR (G:=G) hM hL hc
  have h4:=ZuR (G:=G) hM hL hd
  have b1:=Zuk (G:=G) hL x
  have b2:=Zuk (G:=G) hL y
  have w1 : IntKind.u64.wrap (x : Int) = (x : Int):=by rw [Zdz]; omega
  have w2 : IntKind.u64.wrap (y : Int) = (y : Int):=by rw [Zdz]; omega
  simp only [zA,opA,Fm.u,fsel,flA,fk] at *
  repeat' (first|simp (maxSteps:=9^7) only [seval,exC,ZfA,fcB,h1,h2,h3,h4,h,b1,b2,w1,w2]|simp (maxSteps:=9^7) (disch:=first|with_reducible assumption|omega) only [dxB]|(simp only [kdB];split)|(simp only [kvB];split))
 ·have h1:=Zum (G:=G) hL a
  have h2:=Zum (G:=G) hL b
  have h3:=Zum (G:=G) hL c
  have h4:=Zum (G:=G) hL d
  have b1:=Zul (G:=G) hL x
  have b2:=Zul (G:=G) hL y
  simp only [zA,opA,Fm.u,fsel,flA,fk] at *
  repeat' (first|simp (maxSteps:=9^7) only [seval,exC,ZfA,fcB,h1,h2,h3,h4,h,b1,b2]|simp (maxSteps:=9^7) (disch:=first|with_reducible assumption|omega) only [dxB]|(simp only [kdB];split)|(simp only [kvB];split))
theorem inZ2 {F : Fm} {a b c d : Nat} : inZs F [(a,b),(c,d)]↔inZ F (a,b)∧inZ F (c,d):=by rw [Zmj,Zmj]; exact ⟨fun q => ⟨q.1,q.2.1⟩,fun q => ⟨q.1,q.2,ZqB⟩⟩
theorem Zws2 {F : Fm} {a b c d : Nat} : Zws F [(a,b),(c,d)]↔Zw F (a,b)∧Zw F (c,d):=by rw [ZnB,ZnB]; exact ⟨fun q => ⟨q.1,q.2.1⟩,fun q => ⟨q.1,q.2,ZwI⟩⟩
theorem zcl2 (a b c d : Nat) : zcells [(a,b),(c,d)] = [.int .u64 (a : Int),.int .u64 (b : Int),.int .u64 (c : Int),.int .u64 (d : Int)]:=rfl
theorem Zop (J : Al G T g) (hM : HasM g T) (F : Fm) {l : List (Nat × Nat)} {k j n : Nat} (hl : l.length≤1000) (hw : Zws F l) : ∀ (m i : Nat) (all : Bool) (bs : List Blk),i + m = l.length→bs[k]? = some (engB F.u n)→bs[j]? = some ⟨zcells l,false⟩ →
  evL G T Zam (neE k j l.length all i) ⟨bs,[]⟩ = some (.exit 0,[(0,.ptr k 0),(6,.bool (all && decide (inZs F (l.drop i)))),(13,.own j 0 l.length 2),(14,.int .i64 (l.length : Int)),(15,.int .i64 (l.length : Int)),(16,.bool false)],⟨bs ++ (l.drop i).map zblk,[]⟩)
 | 0,i,all,bs,hm,hk,hj => by
  have hd : l.drop i = []:=List.drop_eq_nil_of_le (by omega)
  have : i = l.length:=by omega
  subst this
  rw [Zxy (Nat.le_refl _),hd,decide_eq_true ZqB,Bool.and_true,List.map_nil,List.append_nil]
 | m + 1,i,all,bs,hm,hk,hj => by
  have hi : i < l.length:=by omega
  have hd:=ZsN hi
  have kl:=(List.getElem?_eq_some_iff.1 hk).1
  have jl:=(List.getElem?_eq_some_iff.1 hj).1
  have h:=Zop J hM F hl hw m (i + 1) (all && decide (inZ F (zc l i))) (bs ++ [zblk (zc l i)]) (by omega) (by rw [List.getElem?_append_left kl]; exact hk) (by rw [List.getElem?_append_left jl]; exact hj)
  rw [← Zuc J hM F hl hi (hw _ (ZCX hi)) hk hj,List.append_assoc] at h
  rw [h,hd]
  have e : (all && decide (inZ F (zc l i)) && decide (inZs F (l.drop (i + 1)))) = (all && decide (inZs F (zc l i :: l.drop (i + 1)))):=by
   rw [Bool.and_assoc]
   congr 1
   rw [← Bool.decide_and]
   exact decide_eq_decide.2 Zmj.symm
  rw [e]
  rfl
theorem Zxz (J : Al G T g) (hM : HasM g T) (F : Fm) {l : List (Nat × Nat)} {k j n : Nat} (hl : l.length≤1000) (hw : Zws F l) {bs : List Blk} (hk : bs[k]? = some (engB F.u n)) (hj : bs[j]? = some ⟨zcells l,false⟩) :
  kJ G Zah.res (evL G T Zah.body [(0,.ptr k 0),(1,.own j 0 l.length 2)] ⟨bs,[]⟩) = some (.tup [.bool (decide (inZs F l)),.int .i64 0],⟨bs ++ l.map zblk,[]⟩):=by
 have lp:=Zop J hM F (k:=k) (j:=j) (n:=n) hl hw l.length 0 true bs (by omega) hk hj
 rw [List.drop_zero,Bool.true_and] at lp
 unfold neE at lp
 simp only [cast0] at lp
 generalize decide (inZs F l) = r at *
 repeat' (first|simp (maxSteps:=9^7) only [seval,exC,Zah,fcB,lp]|simp (maxSteps:=9^7) (disch:=first|with_reducible assumption|omega) only [dxB]|(simp only [kdB];split)|(simp only [kvB];split))
theorem near2 (J : Al G T g) (hM : HasM g T) (F : Fm) {k n a b c d : Nat} {bs L : List Blk} {j : Nat} (ha : a < 18446744073709551616) (hb : b < 18446744073709551616) (hc : c < 18446744073709551616) (hd : d < 18446744073709551616) (hk : bs[k]? = some (engB F.u n)) (hj : (bs ++ L)[j]? = some ⟨[.int .u64 (a : Int),.int .u64 (b : Int),.int .u64 (c : Int),.int .u64 (d : Int)],false⟩) :
  (Zw F (a,b)∧Zw F (c,d)→kJ G Zah.res (evL G T Zah.body [(0,.ptr k 0),(1,.own j 0 2 2)] ⟨bs ++ L,[]⟩) = some (.tup [.bool (decide (inZ F (a,b)∧inZ F (c,d))),.int .i64 0],⟨bs ++ (L ++ [zblk (a,b),zblk (c,d)]),[]⟩)) ∧
  (¬ (Zw F (a,b)∧Zw F (c,d))→∃ bs',kJ G Zah.res (evL G T Zah.body [(0,.ptr k 0),(1,.own j 0 2 2)] ⟨bs ++ L,[]⟩) = some (.tup [.bool false,.int .i64 6],⟨bs ++ (L ++ bs'),[]⟩)):=by
 have hk' : (bs ++ L)[k]? = some (engB F.u n):=by rw [List.getElem?_append_left (List.getElem?_eq_some_iff.1 hk).1]; exact hk
 refine ⟨fun q => ?_,fun q => ?_⟩
 ·have h:=Zxz J hM F (l:=[(a,b),(c,d)]) (by simp) (Zws2.2 q) hk' (by rw [hj,zcl2])
  rw [List.append_assoc,decide_eq_decide.2 (inZ2 (F:=F))] at h
  exact h
 ·obtain ⟨bs',h⟩:=ZAg J hM F (l:=[(a,b),(c,d)]) (k:=k) (j:=j) (n:=n) (bs:=bs ++ L) (by simp) (by
   intro x hx
   simp only [List.mem_cons,List.not_mem_nil,or_false] at hx
   rcases hx with rfl | rfl
   ·exact ⟨ha,hb⟩
   ·exact ⟨hc,hd⟩) hk' (by rw [hj,zcl2])
  rw [if_neg (fun r => q (Zws2.1 r)),List.append_assoc] at h
  exact ⟨bs',h⟩
section
variable {α : Type} (bs L : List α) (v : α)
theorem ga5 : (bs ++ L)[bs.length + 5]? = L[5]?:=by rw [List.getElem?_append_right (Nat.le_add_right ..),Nat.add_sub_cancel_left]
theorem ga6 : (bs ++ L)[bs.length + 6]? = L[6]?:=by rw [List.getElem?_append_right (Nat.le_add_right ..),Nat.add_sub_cancel_left]
theorem ga7 : (bs ++ L)[bs.length + 7]? = L[7]?:=by rw [List.getElem?_append_right (Nat.le_add_right ..),Nat.add_sub_cancel_left]
theorem gs5 : (bs ++ L).set (bs.length + 5) v = bs ++ L.set 5 v:=by rw [List.set_append_right _ _ (Nat.le_add_right ..),Nat.add_sub_cancel_left]
theorem gs6 : (bs ++ L).set (bs.length + 6) v = bs ++ L.set 6 v:=by rw [List.set_append_right _ _ (Nat.le_add_right ..),Nat.add_sub_cancel_left]
theorem gs7 : (bs ++ L).set (bs.length + 7) v = bs ++ L.set 7 v:=by rw [List.set_append_right _ _ (Nat.le_add_right ..),Nat.add_sub_cancel_left]
end
theorem gbB {α : Type} : type_of% (And.intro (And.intro (@ga5 α) (@ga6 α)) (And.intro (And.intro (@ga7 α) (@gs5 α)) (And.intro (@gs6 α) (@gs7 α)))):=And.intro (And.intro (@ga5 α) (@ga6 α)) (And.intro (And.intro (@ga7 α) (@gs5 α)) (And.intro (@gs6 α) (@gs7 α)))
theorem ZxB {bs : List Blk} {k n : Nat} {f : Int} (h : bs[k]? = some (engB f n)) (L : List Blk) : rdAt G (Heap.mem ⟨bs ++ L,[]⟩) 1 (.ptr k 0) = some [.int .u8 f] :=
 ZsQ (n:=n) (by rw [List.getElem?_append_left (List.getElem?_eq_some_iff.1 h).1]; exact h)
set_option maxHeartbeats 4000000 in
theorem ZEU (J : Al G T g) (hM : HasM g T) (hL : HasL g T) (F : Fm) {k n a b c d p q x y u : Nat} {bs : List Blk} (hz : Zw F (a,b)) (hw : Zw F (c,d)) (hi : inZ F (a,b)∧inZ F (c,d)) (hk : bs[k]? = some (engB F.u n)) (hx : x < 2 * F.sg) (hy : y < 2 * F.sg)
  (h : run G T (fsel F p q) [flA F a,flA F b,flA F c,flA F d] = some (.tup [flA F x,flA F y])) :
  ∃ bs',kJ G Zag.res (evL G T Zag.body [(0,.ptr k 0),(1,zA a b),(2,zA c d),(3,opA p q),(4,.fn u [])] ⟨bs,[]⟩) = some (.tup [zA x y,.int .i64 0],⟨bs ++ bs',[]⟩):=by
 have h1:=(near2 J hM F (k:=k) (n:=n) (bs:=bs) (L:=[zblk (a,b),zblk (c,d),⟨[.fn p [],.fn q []],false⟩,⟨[.int .u64 0,.int .u64 0],false⟩,⟨[.int .u64 (a : Int),.int .u64 (b : Int),.int .u64 (c : Int),.int .u64 (d : Int)],false⟩]) (j:=bs.length + 4) (Zbx hz.1) (Zbx hz.2) (Zbx hw.1) (Zbx hw.2) hk (by rw [ga4]; rfl)).1 ⟨hz,hw⟩
 rw [decide_eq_true hi] at h1
 have o1:=ZHE hM hL F hz.1 hz.2 hw.1 hw.2 hx hy h
 have r0:=ZxB (G:=G) hk
 simp only [zA,opA,zblk,List.cons_append,List.nil_append] at *
 clear hk hi hz hw
 generalize F.u = fu at *
 refine ⟨?_,?_⟩
 rotate_left
 ·repeat' (first|simp (maxSteps:=9^7) only [seval,exC,Zag,fcB,gaB,gbB,ZaB G T hM.fast_Engine_near,h1,o1,r0]|simp (maxSteps:=9^7) (disch:=first|with_reducible assumption|omega) only [dxB]|(simp only [kdB];split)|(simp only [kvB];split))
  exact rfl
theorem ZAe (hL : HasL g T) (hM : HasM g T) {bs : List Blk} {k n : Nat} {f : Int} (h : bs[k]? = some (engB f n)) (hn : n < 1000000) (L : List Blk) :
  kJ G Zap.res (evL G T Zap.body [(0,.ptr k 1),(1,.int .u64 1)] ⟨bs ++ L,[]⟩) = some (.int .u64 ((n + 1 : Nat) : Int),⟨bs.set k (engB f (n + 1)) ++ L,[]⟩):=by
 have kl:=(List.getElem?_eq_some_iff.1 h).1
 rw [ZDC hL hM (n:=n) (f:=f) (by rw [List.getElem?_append_left kl]; exact h) hn,List.set_append_left _ _ kl]
theorem Zzf {bs : List Blk} {k n : Nat} {f : Int} (h : bs[k]? = some (engB f n)) (m : Nat) : (bs.set k (engB f m))[k]? = some (engB f m):=by
 rw [List.getElem?_set_self (List.getElem?_eq_some_iff.1 h).1]
theorem ZpH {α : Type} {bs bs2 : List α} (h : bs2.length = bs.length) (L : List α) (i : Nat) : (bs2 ++ L)[bs.length + i]? = L[i]?:=by
 rw [← h,List.getElem?_append_right (Nat.le_add_right ..),Nat.add_sub_cancel_left]
theorem ZxV {α : Type} {bs bs2 : List α} (h : bs2.length = bs.length) (L : List α) (i : Nat) (v : α) : (bs2 ++ L).set (bs.length + i) v = bs2 ++ L.set i v:=by
 rw [← h,List.set_append_right _ _ (Nat.le_add_right ..),Nat.add_sub_cancel_left]
set_option maxHeartbeats 4000000 in
theorem ZDn (J : Al G T g) (hM : HasM g T) (hL : HasL g T) (F : Fm) {k n a b c d p q x y u f1 f2 : Nat} {bs : List Blk} (hz : Zw F (a,b)) (hw : Zw F (c,d)) (hi : ¬ (inZ F (a,b)∧inZ F (c,d))) (hk : bs[k]? = some (engB F.u n)) (hn : n < 1000000)
  (h : run G T u [.int .u8 F.u,.int .u8 1,zA a b,zA c d] = some (.tup [.agg [.int .u64 (x : Int),.int .u64 (y : Int),.int .u8 (f1 : Int),.int .u8 (f2 : Int)],.int .i64 0])) :
  ∃ bs',kJ G Zag.res (evL G T Zag.body [(0,.ptr k 0),(1,zA a b),(2,zA c d),(3,opA p q),(4,.fn u [])] ⟨bs,[]⟩) = some (.tup [zA x y,.int .i64 0],⟨bs.set k (engB F.u (n + 1)) ++ bs',[]⟩):=by
 have h1:=(near2 J hM F (k:=k) (n:=n) (bs:=bs) (L:=[zblk (a,b),zblk (c,d),⟨[.fn p [],.fn q []],false⟩,⟨[.int .u64 0,.int .u64 0],false⟩,⟨[.int .u64 (a : Int),.int .u64 (b : Int),.int .u64 (c : Int),.int .u64 (d : Int)],false⟩]) (j:=bs.length + 4) (Zbx hz.1) (Zbx hz.2) (Zbx hw.1) (Zbx hw.2) hk (by rw [ga4]; rfl)).1 ⟨hz,hw⟩
 rw [decide_eq_false hi] at h1
 have a1:=ZAe (G:=G) hL hM hk hn
 have r0:=ZxB (G:=G) (Zzf hk (n + 1))
 have hl : (bs.set k (engB F.u (n + 1))).length = bs.length:=List.length_set ..
 generalize bs.set k (engB F.u (n + 1)) = bs2 at *
 have gz:=fun L i => ZpH hl L i
 have gs:=fun L i v => ZxV hl L i v
 have gz0 : ∀ L : List Blk,(bs2 ++ L)[bs.length]? = L[0]?:=fun L => ZpH hl L 0
 simp only [zA,opA,zblk,List.cons_append,List.nil_append] at *
 clear hk hi hz hw
 generalize F.u = fu at *
 refine ⟨?_,?_⟩
 rotate_left
 ·repeat' (first|simp (maxSteps:=9^7) only [seval,exC,Zag,fcB,gaB,gbB,ZaB G T hM.fast_Engine_near,ZaB G T hM.sync_atomic_Uint64_Add,h1,r0,a1,h,hl,gz0,gz,gs]|simp (maxSteps:=9^7) (disch:=first|with_reducible assumption|omega) only [dxB]|(simp only [kdB];split)|(simp only [kvB];split))
  exact rfl
theorem ZDm (J : Al G T g) (hM : HasM g T) (hL : HasL g T) (F : Fm) {k n a b c d p q u : Nat} {bs : List Blk} (ha : a < 18446744073709551616) (hb : b < 18446744073709551616) (hc : c < 18446744073709551616) (hd : d < 18446744073709551616) (hzw : ¬ (Zw F (a,b)∧Zw F (c,d))) (hk : bs[k]? = some (engB F.u n)) :
  ∃ bs',kJ G Zag.res (evL G T Zag.body [(0,.ptr k 0),(1,zA a b),(2,zA c d),(3,opA p q),(4,.fn u [])] ⟨bs,[]⟩) = some (.tup [zA 0 0,.int .i64 6],⟨bs ++ bs',[]⟩):=by
 obtain ⟨bs',h1⟩:=(near2 J hM F (k:=k) (n:=n) (bs:=bs) (L:=[zblk (a,b),zblk (c,d),⟨[.fn p [],.fn q []],false⟩,⟨[.int .u64 0,.int .u64 0],false⟩,⟨[.int .u64 (a : Int),.int .u64 (b : Int),.int .u64 (c : Int),.int .u64 (d : Int)],false⟩]) (j:=bs.length + 4) ha hb hc hd hk (by rw [ga4]; rfl)).2 hzw
 simp only [zA,opA,zblk,List.cons_append,List.nil_append] at *
 clear hk hzw
 refine ⟨?_,?_⟩
 rotate_left
 ·repeat' (first|simp (maxSteps:=9^7) only [seval,exC,Zag,fcB,gaB,gbB,ZaB G T hM.fast_Engine_near,h1]|simp (maxSteps:=9^7) (disch:=first|with_reducible assumption|omega) only [dxB]|(simp only [kdB];split)|(simp only [kvB];split))
  exact rfl
theorem ZBl (hM : HasM g T) {a b c d p q u : Nat} {bs : List Blk} :
  ∃ bs',kJ G Zag.res (evL G T Zag.body [(0,.np),(1,zA a b),(2,zA c d),(3,opA p q),(4,.fn u [])] ⟨bs,[]⟩) = some (.tup [zA 0 0,.int .i64 1],⟨bs ++ bs',[]⟩):=by
 have h1:=fun v h => Zyw (G:=G) hM (v:=v) (h:=h)
 simp only [zA,opA] at *
 refine ⟨?_,?_⟩
 rotate_left
 ·repeat' (first|simp (maxSteps:=9^7) only [seval,exC,Zag,fcB,gaB,gbB,ZaB G T hM.fast_Engine_near,h1]|simp (maxSteps:=9^7) (disch:=first|with_reducible assumption|omega) only [dxB]|(simp only [kdB];split)|(simp only [kvB];split))
  exact rfl
end Go.Cv
namespace Go.Cv
variable {G : Nat→Option (List AV)} {T : Tbl} {g : Nat}
def L3 (a b c d : Nat) : List Blk:=[zblk (a,b),zblk (c,d),⟨[.int .u64 0,.int .u64 0],false⟩]
theorem ZtC (hM : HasM g T) {v : AV} {bs bs2 : List Blk} {a b c d x y : Nat} {e : Int} (hl : bs2.length = bs.length)
  (h : ∃ bs',kJ G Zag.res (evL G T Zag.body [(0,v),(1,zA a b),(2,zA c d),(3,opA 361 362),(4,.fn 252 [])] ⟨bs ++ L3 a b c d,[]⟩) = some (.tup [zA x y,.int .i64 e],⟨bs2 ++ (L3 a b c d ++ bs'),[]⟩)) :
  ∃ bs',kJ G Zai.res (evL G T Zai.body [(0,v),(1,zA a b),(2,zA c d)] ⟨bs,[]⟩) = some (.tup [zA x y,.int .i64 e],⟨bs2 ++ bs',[]⟩):=by
 obtain ⟨bs',h⟩:=h
 have gz0 : ∀ L : List Blk,(bs2 ++ L)[bs.length]? = L[0]?:=fun L => ZpH hl L 0
 have gz:=fun L i => ZpH hl L i
 have gs:=fun L i v => ZxV hl L i v
 simp only [zA,opA,zblk,L3,List.cons_append,List.nil_append] at *
 refine ⟨?_,?_⟩
 rotate_left
 ·repeat' (first|simp (maxSteps:=9^7) only [seval,exC,Zai,fcB,gaB,gbB,ZaB G T hM.fast_Engine_ask,h,gz0,gz,gs]|simp (maxSteps:=9^7) (disch:=first|with_reducible assumption|omega) only [dxB]|(simp only [kdB];split)|(simp only [kvB];split))
  exact rfl
theorem ZEF (hM : HasM g T) {v : AV} {bs bs2 : List Blk} {a b c d x y : Nat} {e : Int} (hl : bs2.length = bs.length)
  (h : ∃ bs',kJ G Zag.res (evL G T Zag.body [(0,v),(1,zA a b),(2,zA c d),(3,opA 366 367),(4,.fn 257 [])] ⟨bs ++ L3 a b c d,[]⟩) = some (.tup [zA x y,.int .i64 e],⟨bs2 ++ (L3 a b c d ++ bs'),[]⟩)) :
  ∃ bs',kJ G ZaJ.res (evL G T ZaJ.body [(0,v),(1,zA a b),(2,zA c d)] ⟨bs,[]⟩) = some (.tup [zA x y,.int .i64 e],⟨bs2 ++ bs',[]⟩):=by
 obtain ⟨bs',h⟩:=h
 have gz0 : ∀ L : List Blk,(bs2 ++ L)[bs.length]? = L[0]?:=fun L => ZpH hl L 0
 have gz:=fun L i => ZpH hl L i
 have gs:=fun L i v => ZxV hl L i v
 simp only [zA,opA,zblk,L3,List.cons_append,List.nil_append] at *
 refine ⟨?_,?_⟩
 rotate_left
 ·repeat' (first|simp (maxSteps:=9^7) only [seval,exC,ZaJ,fcB,gaB,gbB,ZaB G T hM.fast_Engine_ask,h,gz0,gz,gs]|simp (maxSteps:=9^7) (disch:=first|with_reducible assumption|omega) only [dxB]|(simp only [kdB];split)|(simp only [kvB];split))
  exact rfl
structure Ans (F : Fm) (res : List IRes) (body : IC) (args : List (Nat × AV)) (k : Nat) (v : AV) (e : Int) (n m : Nat) (G : Nat→Option (List AV)) (T : Tbl) : Prop where
 run : ∀ bs : List Blk,bs[k]? = some (engB F.u n)→∃ bs',kJ G res (evL G T body ((0,.ptr k 0) :: args) ⟨bs,[]⟩) = some (.tup [v,.int .i64 e],⟨bs.set k (engB F.u m) ++ bs',[]⟩)
theorem Zvk {bs : List Blk} {k n : Nat} {f : Int} (h : bs[k]? = some (engB f n)) : bs.set k (engB f n) = bs:=by
 obtain ⟨kl,hk⟩:=List.getElem?_eq_some_iff.1 h
 rw [← hk,List.set_getElem_self]
theorem ZwN {bs L : List Blk} {k n : Nat} {f : Int} (h : bs[k]? = some (engB f n)) : (bs ++ L)[k]? = some (engB f n):=by
 rw [List.getElem?_append_left (List.getElem?_eq_some_iff.1 h).1]; exact h
theorem ZDl {bs L : List Blk} {k n m : Nat} {f : Int} (h : bs[k]? = some (engB f n)) : (bs ++ L).set k (engB f m) = bs.set k (engB f m) ++ L :=
 List.set_append_left _ _ (List.getElem?_eq_some_iff.1 h).1
section
variable (J : Al G T g) (hM : HasM g T) (hL : HasL g T) (F : Fm)
 include J hM hL
theorem ZEG {k n a b c d x y : Nat} (hz : Zw F (a,b)) (hw : Zw F (c,d)) (hi : inZ F (a,b)∧inZ F (c,d)) (hx : x < 2 * F.sg) (hy : y < 2 * F.sg)
  (h : run G T (fsel F 361 362) [flA F a,flA F b,flA F c,flA F d] = some (.tup [flA F x,flA F y])) : Ans F Zai.res Zai.body [(1,zA a b),(2,zA c d)] k (zA x y) 0 n n G T :=
 ⟨fun bs hk => by
  rw [Zvk hk]
  refine ZtC hM rfl ?_
  obtain ⟨bs',h⟩:=ZEU J hM hL F (u:=252) hz hw hi (ZwN (L:=L3 a b c d) hk) hx hy h
  exact ⟨bs',by rw [h,List.append_assoc]⟩⟩
theorem ZwG {k n a b c d x y f1 f2 : Nat} (hz : Zw F (a,b)) (hw : Zw F (c,d)) (hi : ¬ (inZ F (a,b)∧inZ F (c,d))) (hn : n < 1000000)
  (h : run G T 252 [.int .u8 F.u,.int .u8 1,zA a b,zA c d] = some (.tup [.agg [.int .u64 (x : Int),.int .u64 (y : Int),.int .u8 (f1 : Int),.int .u8 (f2 : Int)],.int .i64 0])) :
  Ans F Zai.res Zai.body [(1,zA a b),(2,zA c d)] k (zA x y) 0 n (n + 1) G T :=
 ⟨fun bs hk => by
  refine ZtC hM (List.length_set ..) ?_
  obtain ⟨bs',h⟩:=ZDn J hM hL F (p:=361) (q:=362) (u:=252) hz hw hi (ZwN (L:=L3 a b c d) hk) hn h
  exact ⟨bs',by rw [h,ZDl hk,List.append_assoc]⟩⟩
theorem ZDc {k n a b c d : Nat} (ha : a < 18446744073709551616) (hb : b < 18446744073709551616) (hc : c < 18446744073709551616) (hd : d < 18446744073709551616) (hzw : ¬ (Zw F (a,b)∧Zw F (c,d))) :
  Ans F Zai.res Zai.body [(1,zA a b),(2,zA c d)] k (zA 0 0) 6 n n G T :=
 ⟨fun bs hk => by
  rw [Zvk hk]
  refine ZtC hM rfl ?_
  obtain ⟨bs',h⟩:=ZDm J hM hL F (p:=361) (q:=362) (u:=252) ha hb hc hd hzw (ZwN (L:=L3 a b c d) hk)
  exact ⟨bs',by rw [h,List.append_assoc]⟩⟩
end
theorem ZBh (hM : HasM g T) {a b c d : Nat} {bs : List Blk} : ∃ bs',kJ G Zai.res (evL G T Zai.body [(0,.np),(1,zA a b),(2,zA c d)] ⟨bs,[]⟩) = some (.tup [zA 0 0,.int .i64 1],⟨bs ++ bs',[]⟩):=by
 refine ZtC hM rfl ?_
 obtain ⟨bs',h⟩:=ZBl (G:=G) hM (p:=361) (q:=362) (u:=252) (a:=a) (b:=b) (c:=c) (d:=d) (bs:=bs ++ L3 a b c d)
 exact ⟨bs',by rw [h,List.append_assoc]⟩
theorem ZBg (hM : HasM g T) {a b c d : Nat} {bs : List Blk} : ∃ bs',kJ G ZaJ.res (evL G T ZaJ.body [(0,.np),(1,zA a b),(2,zA c d)] ⟨bs,[]⟩) = some (.tup [zA 0 0,.int .i64 1],⟨bs ++ bs',[]⟩):=by
 refine ZEF hM rfl ?_
 obtain ⟨bs',h⟩:=ZBl (G:=G) hM (p:=366) (q:=367) (u:=257) (a:=a) (b:=b) (c:=c) (d:=d) (bs:=bs ++ L3 a b c d)
 exact ⟨bs',by rw [h,List.append_assoc]⟩
theorem ZBc (hM : HasM g T) {a b : Nat} {bs : List Blk} : ∃ bs',kJ G Zbr.res (evL G T Zbr.body [(0,.np),(1,zA a b)] ⟨bs,[]⟩) = some (.tup [.int .u64 0,.int .i64 1],⟨bs ++ bs',[]⟩):=by
 have h1:=fun v h => Zyw (G:=G) hM (v:=v) (h:=h)
 simp only [zA] at *
 refine ⟨?_,?_⟩
 rotate_left
 ·repeat' (first|simp (maxSteps:=9^7) only [seval,exC,Zbr,fcB,gaB,gbB,ZlK,ZaB G T hM.fast_Engine_near,h1]|simp (maxSteps:=9^7) (disch:=first|with_reducible assumption|omega) only [dxB]|(simp only [kdB];split)|(simp only [kvB];split))
  exact rfl
end Go.Cv
