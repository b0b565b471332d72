/-
 A part of the proof of the statements of this seat (texts that the law's own text leans on): no condition.
-/
import Derived.Test.YtddmoldiopnifaaGreatDoorM11
import Derived.Test.YtddmoldiopnifaaGreatDoorM12
import Derived.Test.YtddmoldiopnifaaGreatDoorM7
set_option linter.unusedVariables false
set_option linter.unusedSimpArgs false
namespace Go.Cv
def Fm.nan (F : Fm) : Nat:=F.most * 2 ^ F.fr + 2 ^ (F.fr - 1)
theorem ZlF {F : Fm} {w : Nat} (h : w < 2 * F.sg) : w = w % F.sg + F.sgn (F.ng w)∧w % F.sg = 2 ^ F.fr * F.ex w + F.fc w∧F.fc w < 2 ^ F.fr∧F.ex w≤F.most:=by
 have hp:=Nat.two_pow_pos F.fr
 have hsg : F.sg = 2 ^ F.fr * (F.most + 1):=by cases F <;> decide
 have h0 : 0 < F.sg:=by cases F <;> decide
 refine ⟨?_,(Nat.div_add_mod _ _).symm,Nat.mod_lt _ hp,?_⟩
 ·unfold Fm.ng Fm.sgn
  by_cases h1 : F.sg≤w
  ·rw [decide_eq_true h1,if_pos rfl,Nat.mod_eq_sub_mod h1,Nat.mod_eq_of_lt (by omega)]; omega
  ·rw [decide_eq_false h1,if_neg (by decide),Nat.mod_eq_of_lt (by omega)]; rfl
 ·have h1:=Nat.mod_lt w h0
  have : w % F.sg / 2 ^ F.fr < F.most + 1:=Nat.div_lt_of_lt_mul (by rw [← hsg]; exact h1)
  unfold Fm.ex; omega
theorem ZcE (F : Fm) (w : Nat) : F.cls w = 1∨F.cls w = 2∨F.cls w = 3∨F.cls w = 4∨F.cls w = 5:=by
 unfold Fm.cls; repeat' split
 all_goals omega
theorem Zvx {F : Fm} {w : Nat} (h : w < 2 * F.sg) : F.cls w = 1↔w % F.sg = 0:=by
 obtain ⟨h1,h2,h3,h4⟩:=ZlF h
 have hp:=Nat.two_pow_pos F.fr
 rw [h2]
 unfold Fm.cls
 generalize F.ex w = x at *
 generalize F.fc w = y at *
 constructor
 ·intro hc
  have hx : x = 0∧y = 0:=by
   by_cases a : x = 0
   ·by_cases b : y = 0
    ·exact ⟨a,b⟩
    ·rw [if_pos a,if_neg b] at hc; omega
   ·rw [if_neg a] at hc
    split at hc
    ·omega
    ·split at hc <;> omega
  rw [hx.1,hx.2]; rfl
 ·intro hc
  have hy : y = 0:=by omega
  have hx : x = 0:=by
   rcases Nat.mul_eq_zero.1 (show 2 ^ F.fr * x = 0 by omega) with q | q
   ·omega
   ·exact q
  rw [if_pos hx,if_pos hy]
theorem Zll {F : Fm} {w : Nat} (h : w < 2 * F.sg) (hc : F.cls w = 1) : w = F.sgn (F.ng w)∧F.val w = ⟨false,0,0⟩:=by
 have h1:=(ZlF h).1
 rw [(Zvx h).1 hc,Nat.zero_add] at h1
 refine ⟨h1,?_⟩
 rw [h1]
 have:=Zmp F (F.ng w)
 rw [Nat.zero_add] at this
 exact this
theorem ZCv {F : Fm} {w : Nat} (h : w < 2 * F.sg) (h1 : F.cls w≠1) (h2 : F.fin w) : (F.val w).m≠0:=by
 obtain ⟨s,n,hw,q1,q2,q3⟩:=ZuE h
 have h0 : s≠0:=by
  rintro rfl
  apply h1
  rw [Zvx h,hw]
  exact (ZeO n q1).1
 rw [hw]; exact (Znu F 1 n (q2 h2) h0).2
def sumW (F : Fm) (md : Int) (d : Dy) : Nat × Nat:=if d.m = 0 then (F.sgn (decide (md = 5)),0) else rndW F md d
def addP (F : Fm) (md : Int) (c : Int) (n : Bool) (d : Dy) (c' : Int) (n' : Bool) (d' : Dy) : Nat × Nat :=
 if c = 5∨c' = 5 then (F.nan,0)
 else if c = 4∧c' = 4∧n≠n' then (F.nan,1)
 else if c = 4 then (F.inf n,0)
 else if c' = 4 then (F.inf n',0)
 else if c = 1∧c' = 1∧n = n' then (F.sgn n,0)
 else sumW F md (addD d d')
def mulD (a b : Dy) : Dy:=mkD (a.n != b.n) (a.m * b.m) (a.e + b.e)
def mulP (F : Fm) (md : Int) (c : Int) (n : Bool) (d : Dy) (c' : Int) (n' : Bool) (d' : Dy) : Nat × Nat :=
 if c = 5∨c' = 5 then (F.nan,0)
 else if (c = 4∨c' = 4)∧(c = 1∨c' = 1) then (F.nan,1)
 else if c = 4∨c' = 4 then (F.inf (n != n'),0)
 else if c = 1∨c' = 1 then (F.sgn (n != n'),0)
 else sumW F md (mulD d d')
def Fm.vl (F : Fm) (w : Nat) : Dy:=if F.fin w then F.val w else ⟨false,0,0⟩
def addW (F : Fm) (md : Int) (a b : Nat) : Nat × Nat:=addP F md (F.cls a) (F.ng a) (F.vl a) (F.cls b) (F.ng b) (F.vl b)
def subW (F : Fm) (md : Int) (a b : Nat) : Nat × Nat:=addP F md (F.cls a) (F.ng a) (F.vl a) (F.cls b) (!F.ng b) (negD (F.vl b))
def mulW2 (F : Fm) (md : Int) (a b : Nat) : Nat × Nat:=mulP F md (F.cls a) (F.ng a) (F.vl a) (F.cls b) (F.ng b) (F.vl b)
theorem ZuV {a b : Dy} (ha : Nz a) (hb : Nz b) : addD a b = addD b a:=by
 unfold addD
 by_cases h1 : a.m = 0
 ·by_cases h2 : b.m = 0
  ·rw [if_pos h1,if_pos h2,ha.1 h1,hb.1 h2]
  ·rw [if_pos h1,if_neg h2,if_pos h1]
 ·by_cases h2 : b.m = 0
  ·rw [if_neg h1,if_pos h2,if_pos h2]
  ·rw [if_neg h1,if_neg h2,if_neg h2,if_neg h1,Int.min_comm b.e a.e]
   generalize a.m * 2 ^ (a.e - min a.e b.e).toNat = x
   generalize b.m * 2 ^ (b.e - min a.e b.e).toNat = y
   by_cases h3 : a.n = b.n
   ·rw [if_pos h3,if_pos h3.symm,h3,Nat.add_comm]
   ·rw [if_neg h3,if_neg (show ¬ b.n = a.n from fun h => h3 h.symm)]
    by_cases h4 : y≤x
    ·by_cases h5 : x≤y
     ·rw [if_pos h4,if_pos h5,show x = y by omega,Nat.sub_self]; rfl
     ·rw [if_pos h4,if_neg h5]
    ·rw [if_neg h4,if_pos (by omega)]
def Fm.flip (F : Fm) (w : Nat) : Nat:=w % F.sg + F.sgn (!F.ng w)
theorem Zur {F : Fm} {w : Nat} (h : w < 2 * F.sg) : F.flip w < 2 * F.sg∧F.ng (F.flip w) = !F.ng w∧F.cls (F.flip w) = F.cls w∧F.vl (F.flip w) = negD (F.vl w):=by
 have h0 : 0 < F.sg:=by cases F <;> decide
 have h1:=Nat.mod_lt w h0
 obtain ⟨e1,e2⟩:=ZeO (F:=F) (!F.ng w) h1
 have hx : F.ex (F.flip w) = F.ex w:=by unfold Fm.ex Fm.flip; rw [e1]
 have hy : F.fc (F.flip w) = F.fc w:=by unfold Fm.fc Fm.flip; rw [e1]
 refine ⟨?_,e2,?_,?_⟩
 ·unfold Fm.flip Fm.sgn; split <;> omega
 ·unfold Fm.cls; rw [hx,hy]
 ·have hn : F.ng (F.flip w) = !F.ng w:=e2
  have hff : F.fin (F.flip w)↔F.fin w:=by unfold Fm.fin; rw [hx]
  unfold Fm.vl
  by_cases h3 : F.fin w
  ·rw [if_pos h3,if_pos (hff.2 h3)]
   unfold Fm.val
   rw [hx,hy,hn]
   have hmk : ∀ (m : Nat) (e : Int),mkD (!F.ng w) m e = negD (mkD (F.ng w) m e):=fun m e => by
    by_cases hm : m = 0
    ·subst hm; rfl
    ·unfold negD; rw [if_neg (ZsP hm e),Zaz hm,Zaz hm]
   split <;> exact hmk _ _
  ·rw [if_neg h3,if_neg (fun h => h3 (hff.1 h))]; rfl
theorem ZbX (F : Fm) (w : Nat) : Nz (F.vl w):=by
 unfold Fm.vl; split
 ·unfold Fm.val; split <;> exact ZnE _ _ _
 ·exact ⟨fun _ => rfl,fun h => absurd rfl h⟩
theorem ZgU (F : Fm) (w : Nat) : Bd (F.vl w) 4096:=by
 unfold Fm.vl; split
 ·rename_i h; exact ZCC F h
 ·exact ⟨by simp only [Zai]; omega,by simp,by simp⟩
theorem Zat {F : Fm} {w : Nat} : F.fin w↔F.cls w = 1∨F.cls w = 2∨F.cls w = 3:=by
 have h1:=ZvP F w
 have h2:=ZcE F w
 constructor
 ·intro h; have:=h1.1 h; omega
 ·intro h; exact h1.2 (by omega)
end Go.Cv
namespace Go.Cv
variable {G : Nat→Option (List AV)} {T : Tbl} {g : Nat}
theorem ZgJ {l : List Nat} {i v : Nat} (h : i < l.length) : val ((l.set i v).take (i + 1)) = val (l.take i) + 4294967296 ^ i * v:=by
 rw [Zab,List.take_set_of_le (Nat.le_refl i)]
 congr 2
 rw [ZeM (by rw [List.length_set]; exact h),List.getElem_set_self]
theorem ZkE (J : Al G T g) {A B : List Nat} {z y : Bool} {b : Nat} (hA : Dg A) (hB : Dg B) (hs : A.length < 17179869184) (ht : B.length≤A.length) : ∀ (m i : Nat) (h : Heap) (l : List Nat) (c : Nat),
  m + i = A.length→Holds h b l→Dg l→l.length = A.length + 1→c≤1→val (l.take i) + 4294967296 ^ i * c = val (A.take i) + val (B.take i) →
  Post (evL G T Zge [(0,D z A),(1,D y B),(6,.own b 0 (A.length + 1) 1),(7,.int .u32 (c : Int)),(27,.int .i64 ((A.length : Nat) : Int)),(28,.int .i64 (i : Int))] h) fun r =>
   ∃ e h' l' c',r = (.exit 0,(0,D z A) :: (1,D y B) :: (6,.own b 0 (A.length + 1) 1) :: (7,.int .u32 ((c' : Nat) : Int)) :: e,h')∧Holds h' b l'∧Dg l'∧l'.length = A.length + 1∧c'≤1∧val (l'.take A.length) + 4294967296 ^ A.length * c' = val A + val B
 | 0,i,h,l,c,hm,H,hd,hl,hc,he => by
  rw [Zae G T (c:=Zge) rfl]
  have h1 : ¬ (i : Int) < (A.length : Int):=by omega
  repeat (first | (simp (maxSteps:=9^7) only [seval,evB,Zgd,h1]) | (simp (disch:=omega) only [dsB]))
  obtain rfl : i = A.length:=by omega
  rw [List.take_length,List.take_of_length_le ht] at he
  exact Post.some ⟨_,_,_,_,rfl,H,hd,hl,hc,he⟩
 | m + 1,i,h,l,c,hm,H,hd,hl,hc,he => by
  rw [Zae G T (c:=Zge) rfl]
  have h1 : (i : Int) < (A.length : Int):=by omega
  have e7 : (i : Int) + 1 = ((i + 1 : Nat) : Int):=by omega
  have hx:=hA.dg i
  have hy:=hB.dg i
  have hil : i < l.length:=by omega
  have hb:=ZgW J (x:=dg A i) (y:=dg B i) (w:=c) (d:=(dg A i + dg B i + c) % 4294967296) (z:=(dg A i + dg B i + c) / 4294967296) hx hy hc (Nat.mod_lt _ (by decide)) (by omega) (by omega)
  have key : val ((l.set i ((dg A i + dg B i + c) % 4294967296)).take (i + 1)) + 4294967296 ^ (i + 1) * ((dg A i + dg B i + c) / 4294967296) = val (A.take (i + 1)) + val (B.take (i + 1)):=by
   rw [ZgJ hil,Zab,Zab,Nat.pow_succ,Nat.mul_assoc,Nat.add_assoc,← Nat.mul_add,Nat.mod_add_div,Nat.mul_add,Nat.mul_add]
   omega
  have hz : (dg A i + dg B i + c) / 4294967296≤1:=by omega
  have hm1 : (dg A i + dg B i + c) % 4294967296 < 4294967296:=Nat.mod_lt _ (by decide)
  by_cases h2 : (i : Int) < (B.length : Int)
  ·repeat (first | (simp (maxSteps:=9^7) only [seval,evB,Zgd,h1,h2,hb,e7 ]) | (simp (disch:=omega) only [dsB,ZcS H]))
   exact ZkE J hA hB hs ht m (i + 1) _ _ _ (by omega) (H.put _) (Zeu hd hm1) (by rw [List.length_set]; exact hl) hz key
  ·have hg : dg B i = 0:=Zit (by omega)
   rw [hg] at hb key hz hm1
   rw [cast0] at hb
   repeat (first | (simp (maxSteps:=9^7) only [seval,evB,Zgd,h1,h2,hb,e7 ]) | (simp (disch:=omega) only [dsB,ZcS H]))
   exact ZkE J hA hB hs ht m (i + 1) _ _ _ (by omega) (H.put _) (Zeu hd hm1) (by rw [List.length_set]; exact hl) hz key
theorem ZmY (J : Al G T g) {A B : List Nat} {z y : Bool} {b : Nat} (hA : Dg A) (hB : Dg B) (hs : A.length < 17179869184) (ht : B.length≤A.length) : ∀ (m i : Nat) (h : Heap) (l : List Nat) (c : Nat),
  m + i = A.length→Holds h b l→Dg l→l.length = A.length→c≤1→val (l.take i) + val (B.take i) = val (A.take i) + 4294967296 ^ i * c →
  Post (evL G T Zgm [(0,D z A),(1,D y B),(5,.own b 0 A.length 1),(6,.int .u32 (c : Int)),(13,.int .i64 ((A.length : Nat) : Int)),(14,.int .i64 (i : Int))] h) fun r =>
   ∃ e h' l' c',r = (.exit 0,(0,D z A) :: (1,D y B) :: (5,.own b 0 A.length 1) :: (6,.int .u32 ((c' : Nat) : Int)) :: e,h')∧Holds h' b l'∧Dg l'∧l'.length = A.length∧c'≤1∧val l' + val B = val A + 4294967296 ^ A.length * c'
 | 0,i,h,l,c,hm,H,hd,hl,hc,he => by
  rw [Zae G T (c:=Zgm) rfl]
  have h1 : ¬ (i : Int) < (A.length : Int):=by omega
  repeat (first | (simp (maxSteps:=9^7) only [seval,evB,Zgl,h1]) | (simp (disch:=omega) only [dsB]))
  obtain rfl : i = A.length:=by omega
  rw [List.take_length,List.take_of_length_le ht,List.take_of_length_le (by omega)] at he
  exact Post.some ⟨_,_,_,_,rfl,H,hd,hl,hc,he⟩
 | m + 1,i,h,l,c,hm,H,hd,hl,hc,he => by
  rw [Zae G T (c:=Zgm) rfl]
  have h1 : (i : Int) < (A.length : Int):=by omega
  have e7 : (i : Int) + 1 = ((i + 1 : Nat) : Int):=by omega
  have hx:=hA.dg i
  have hy:=hB.dg i
  have hil : i < l.length:=by omega
  obtain ⟨d,q,hdq,hd1,hq⟩ : ∃ d q,d + dg B i + c = dg A i + 4294967296 * q∧d < 4294967296∧q≤1:=by
   by_cases hlt : dg A i < dg B i + c
   ·exact ⟨dg A i + 4294967296 - (dg B i + c),1,by omega,by omega,by omega⟩
   ·exact ⟨dg A i - (dg B i + c),0,by omega,by omega,by omega⟩
  have hb:=ZgX J (x:=dg A i) (y:=dg B i) (w:=c) (d:=d) (z:=q) hx hy hc hd1 hq hdq
  have key : val ((l.set i d).take (i + 1)) + val (B.take (i + 1)) = val (A.take (i + 1)) + 4294967296 ^ (i + 1) * q:=by
   rw [ZgJ hil,Zab,Zab,Nat.pow_succ,Nat.mul_assoc]
   have h2 : 4294967296 ^ i * d + 4294967296 ^ i * dg B i + 4294967296 ^ i * c = 4294967296 ^ i * dg A i + 4294967296 ^ i * (4294967296 * q):=by
    rw [← Nat.mul_add,← Nat.mul_add,← Nat.mul_add,hdq]
   omega
  by_cases h2 : (i : Int) < (B.length : Int)
  ·repeat (first | (simp (maxSteps:=9^7) only [seval,evB,Zgl,h1,h2,hb,e7 ]) | (simp (disch:=omega) only [dsB,ZcS H]))
   exact ZmY J hA hB hs ht m (i + 1) _ _ _ (by omega) (H.put _) (Zeu hd hd1) (by rw [List.length_set]; exact hl) hq key
  ·have hg : dg B i = 0:=Zit (by omega)
   rw [hg,cast0] at hb
   repeat (first | (simp (maxSteps:=9^7) only [seval,evB,Zgl,h1,h2,hb,e7 ]) | (simp (disch:=omega) only [dsB,ZcS H]))
   exact ZmY J hA hB hs ht m (i + 1) _ _ _ (by omega) (H.put _) (Zeu hd hd1) (by rw [List.length_set]; exact hl) hq key
theorem ZiP (J : Al G T g) {z : Bool} {l : List Nat} (h : l.length≤4096) : run G T 117 [D z l] = some (.tup [D z l,.int .i64 0]):=by
 rw [Zac G T J.A.ZiP]
 have h1 : ¬ (4096 : Int) < (l.length : Int):=by omega
 repeat (first | (simp (maxSteps:=9^7) only [seval,evB,ZhF,h1]) | (simp (disch:=omega) only [dsB]))
theorem Zrx (J : Al G T g) {z y : Bool} {a b : Nat} (ha : (dl a).length < 17179869184) (hab : b≤a) : ∃ z',run G T 116 [D z (dl a),D y (dl b)] = some (D z' (dl (a - b))):=by
 have hlen : (dl b).length≤(dl a).length:=by
  rw [ZbL]; exact Nat.lt_of_le_of_lt hab (ZbL.1 (Nat.le_refl _))
 obtain ⟨_,hr,e,h',l',c',rfl,H,hd,hl,hc,hv⟩:=ZmY (G:=G) (T:=T) (z:=z) (y:=y) (b:=Heap.nil.b.length) J (Zas a) (Zas b) ha hlen (dl a).length 0 (new .nil (List.replicate (dl a).length 0)) _ 0 (by omega) (Zbs FreH.nil _) (Ziu _) (by rw [List.length_replicate]) (by omega) (by simp [val])
 rw [cast0] at hr
 rw [ZaI,ZaI] at hv
 have hlt:=ZdE hd
 have hc0 : c' = 0:=by
  rcases Nat.eq_zero_or_pos c' with q | q
  ·exact q
  ·have : c' = 1:=by omega
   rw [this,Nat.mul_one,← hl] at hv; omega
 rw [hc0,Nat.mul_zero,Nat.add_zero] at hv
 have hv2 : val l' = a - b:=by omega
 have hsn:=ZbW H (n:=(dl a).length) (by omega)
 rw [← hl,List.take_length] at hsn
 obtain ⟨z',hz⟩:=Zbr J (z:=false) hd (by omega)
 rw [hl] at hsn
 refine ⟨z',?_⟩
 rw [Zac G T J.A.Zrx,← hv2]
 repeat (first | (simp (maxSteps:=9^7) only [seval,evB,Zkr,hr,hsn,hz]) | (simp (disch:=omega) only [dsB]))
theorem ZoU (J : Al G T g) {z y : Bool} {a b : Nat} (ha : mayL (dl a) = true) (hb : mayL (dl b) = true) (hab : b≤a) : ∃ z',run G T 103 [D z (dl a),D y (dl b)] = some (.tup [D z' (dl (a - b)),.int .i64 0]):=by
 have la:=(ZaG.1 ha).1
 have lb:=(ZaG.1 hb).1
 have h1:=ZiO (G:=G) J (z:=z) (y:=y) (a:=dl a) (b:=dl b)
 rw [ha,hb,Bool.and_self] at h1
 have h2:=ZjY (G:=G) J (z:=z) (y:=y) (a:=a) (b:=b) (by omega) (by omega)
 have h3 : ¬ cmpN a b < 0:=by rw [Zfj]; omega
 obtain ⟨z',h4⟩:=Zrx J (z:=z) (y:=y) (a:=a) (b:=b) (by omega) hab
 refine ⟨z',?_⟩
 rw [Zac G T J.A.ZoU]
 repeat' (first|simp (maxSteps:=9^7) only [seval,exC,Zko,h1,h2,h3,h4]|simp (maxSteps:=9^7) (disch:=first|with_reducible assumption|omega) only [dxB]|(simp only [kdB];split)|(simp only [kvB];split))
theorem Zrv (J : Al G T g) {z y : Bool} {a b : Nat} (ha : mayL (dl a) = true) (hb : mayL (dl b) = true) : run G T 104 [D z (dl a),D y (dl b)] = some (.tup [.int .i64 (cmpN a b),.int .i64 0]):=by
 have la:=(ZaG.1 ha).1
 have lb:=(ZaG.1 hb).1
 have h1:=ZiO (G:=G) J (z:=z) (y:=y) (a:=dl a) (b:=dl b)
 rw [ha,hb,Bool.and_self] at h1
 have h2:=ZjY (G:=G) J (z:=z) (y:=y) (a:=a) (b:=b) (by omega) (by omega)
 rw [Zac G T J.A.Zrv]
 repeat' (first|simp (maxSteps:=9^7) only [seval,exC,Zkm,h1,h2]|simp (maxSteps:=9^7) (disch:=first|with_reducible assumption|omega) only [dxB]|(simp only [kdB];split)|(simp only [kvB];split))
theorem Zru (J : Al G T g) {z y : Bool} {a b : Nat} (ha : mayL (dl a) = true) (hb : mayL (dl b) = true) (hab : (dl b).length≤(dl a).length) (hs : (dl (a + b)).length≤4096) : ∃ z',run G T 105 [D z (dl a),D y (dl b)] = some (.tup [D z' (dl (a + b)),.int .i64 0]):=by
 have la:=(ZaG.1 ha).1
 have lb:=(ZaG.1 hb).1
 have h1:=ZiO (G:=G) J (z:=z) (y:=y) (a:=dl a) (b:=dl b)
 rw [ha,hb,Bool.and_self] at h1
 have h2 : ¬ ((dl a).length : Int) < ((dl b).length : Int):=by omega
 obtain ⟨_,hr,e,h',l',c',rfl,H,hd,hl,hc,hv⟩:=ZkE (G:=G) (T:=T) (z:=z) (y:=y) (b:=1) J (Zas a) (Zas b) (by omega) hab (dl a).length 0 (new ⟨[⟨[D z (dl a),D y (dl b)],false⟩],fz1 (AV.bool true) [0]⟩ (List.replicate ((dl a).length + 1) 0)) _ 0 (by omega) (Zbs (h:=⟨[⟨[D z (dl a),D y (dl b)],false⟩],fz1 (AV.bool true) [0]⟩) (fun _ h => absurd h List.not_mem_nil) _) (Ziu _) (by rw [List.length_replicate]) (by omega) (by simp [val])
 rw [cast0] at hr
 rw [ZaI,ZaI] at hv
 have hil : (dl a).length < l'.length:=by omega
 have hvs:=ZgJ (v:=c') hil
 rw [hv,List.take_of_length_le (by rw [List.length_set]; omega)] at hvs
 have H2:=H.put (l'.set (dl a).length c')
 have hd2 : Dg (l'.set (dl a).length c'):=Zeu hd (by omega)
 have hl2 : (l'.set (dl a).length c').length = (dl a).length + 1:=by rw [List.length_set]; exact hl
 have hsn:=ZbW H2 (n:=(dl a).length + 1) (by omega)
 rw [← hl2,List.take_length] at hsn
 obtain ⟨z',hz⟩:=Zbr J (z:=false) hd2 (by omega)
 rw [hl2] at hsn
 rw [hvs] at hz
 have hbd:=ZiP J (z:=z') hs
 have e8 : ((dl a).length : Int) + 1 = (((dl a).length + 1 : Nat) : Int):=by omega
 refine ⟨z',?_⟩
 rw [Zac G T J.A.ZoS]
 repeat' (first|simp (maxSteps:=9^7) only [seval,exC,Ziv,h1,h2,e8,hr,hsn,hz,hbd ]|simp (maxSteps:=9^7) (disch:=first|with_reducible assumption|omega) only [dxB,ZcS H]|(simp only [kdB];split)|(simp only [kvB];split))
theorem ZoS (J : Al G T g) {z y : Bool} {a b : Nat} (ha : mayL (dl a) = true) (hb : mayL (dl b) = true) (hs : (dl (a + b)).length≤4096) : ∃ z',run G T 105 [D z (dl a),D y (dl b)] = some (.tup [D z' (dl (a + b)),.int .i64 0]):=by
 have la:=(ZaG.1 ha).1
 have lb:=(ZaG.1 hb).1
 by_cases hab : (dl b).length≤(dl a).length
 ·exact Zru J ha hb hab hs
 have h1:=ZiO (G:=G) J (z:=z) (y:=y) (a:=dl a) (b:=dl b)
 rw [ha,hb,Bool.and_self] at h1
 have h2 : ((dl a).length : Int) < ((dl b).length : Int):=by omega
 obtain ⟨_,hr,e,h',l',c',rfl,H,hd,hl,hc,hv⟩:=ZkE (G:=G) (T:=T) (z:=y) (y:=z) (b:=1) J (Zas b) (Zas a) (by omega) (by omega) (dl b).length 0 (new ⟨[⟨[D z (dl a),D y (dl b)],false⟩],fz1 (AV.bool true) [0]⟩ (List.replicate ((dl b).length + 1) 0)) _ 0 (by omega) (Zbs (h:=⟨[⟨[D z (dl a),D y (dl b)],false⟩],fz1 (AV.bool true) [0]⟩) (fun _ h => absurd h List.not_mem_nil) _) (Ziu _) (by rw [List.length_replicate]) (by omega) (by simp [val])
 rw [cast0] at hr
 rw [ZaI,ZaI,Nat.add_comm b a] at hv
 have hil : (dl b).length < l'.length:=by omega
 have hvs:=ZgJ (v:=c') hil
 rw [hv,List.take_of_length_le (by rw [List.length_set]; omega)] at hvs
 have H2:=H.put (l'.set (dl b).length c')
 have hd2 : Dg (l'.set (dl b).length c'):=Zeu hd (by omega)
 have hl2 : (l'.set (dl b).length c').length = (dl b).length + 1:=by rw [List.length_set]; exact hl
 have hsn:=ZbW H2 (n:=(dl b).length + 1) (by omega)
 rw [← hl2,List.take_length] at hsn
 obtain ⟨z',hz⟩:=Zbr J (z:=false) hd2 (by omega)
 rw [hl2] at hsn
 rw [hvs] at hz
 have hbd:=ZiP J (z:=z') hs
 have e8 : ((dl b).length : Int) + 1 = (((dl b).length + 1 : Nat) : Int):=by omega
 refine ⟨z',?_⟩
 rw [Zac G T J.A.ZoS]
 repeat' (first|simp (maxSteps:=9^7) only [seval,exC,Ziv,h1,h2,e8,hr,hsn,hz,hbd ]|simp (maxSteps:=9^7) (disch:=first|with_reducible assumption|omega) only [dxB,ZcS H]|(simp only [kdB];split)|(simp only [kvB];split))
theorem Zvq {x y a b : Nat} (hx : blen x≤a) (hy : blen y≤b) : blen (x * y)≤a + b:=by
 refine Zaf.2 ?_
 rw [Nat.pow_add]
 exact Nat.mul_lt_mul_of_lt_of_lt (Zaf.1 hx) (Zaf.1 hy)
theorem Zrw (J : Al G T g) {z y : Bool} {a b : Nat} (ha : mayL (dl a) = true) (hb : mayL (dl b) = true) (hs : (dl a).length + (dl b).length≤4096) : ∃ z',run G T 197 [D z (dl a),D y (dl b)] = some (.tup [D z' (dl (a * b)),.int .i64 0]):=by
 have h1:=ZiO (G:=G) J (z:=z) (y:=y) (a:=dl a) (b:=dl b)
 rw [ha,hb,Bool.and_self] at h1
 obtain ⟨z',h2⟩:=ZoW J (z:=z) (y:=y) (a:=a) (b:=b) (by omega)
 have hl : (dl (a * b)).length≤4096:=by
  have e1:=ZbL.1 (Nat.le_refl (dl a).length)
  have e2:=ZbL.1 (Nat.le_refl (dl b).length)
  have : (dl (a * b)).length≤(dl a).length + (dl b).length:=by
   rw [ZbL,Nat.pow_add]; exact Nat.mul_lt_mul_of_lt_of_lt e1 e2
  omega
 have h3:=ZiP J (z:=z') hl
 have c1 : ¬ (4096 : Int) < ((dl a).length : Int) + ((dl b).length : Int) - 1:=by omega
 refine ⟨z',?_⟩
 rw [Zac G T J.U.Zrw]
 by_cases k1 : (0 : Int) < ((dl a).length : Int)
 ·by_cases k2 : (0 : Int) < ((dl b).length : Int)
  ·repeat' (first|simp (maxSteps:=9^7) only [seval,exC,Zhb,h1,h2,h3,c1,k1,k2]|simp (maxSteps:=9^7) (disch:=first|with_reducible assumption|omega) only [dxB]|(simp only [kdB];split)|(simp only [kvB];split))
  ·repeat' (first|simp (maxSteps:=9^7) only [seval,exC,Zhb,h1,h2,h3,c1,k1,k2]|simp (maxSteps:=9^7) (disch:=first|with_reducible assumption|omega) only [dxB]|(simp only [kdB];split)|(simp only [kvB];split))
 ·repeat' (first|simp (maxSteps:=9^7) only [seval,exC,Zhb,h1,h2,h3,c1,k1]|simp (maxSteps:=9^7) (disch:=first|with_reducible assumption|omega) only [dxB]|(simp only [kdB];split)|(simp only [kvB];split))
theorem Zjq (J : Al G T g) {n z : Bool} {l : List Nat} {e : Int} (hl : l.length < 549755813888) : ∃ z',run G T 205 [A3 n (D z l) e] = some (A3 n (D z' l) e):=by
 apply exP
 rw [Zac G T J.U.Zjq]
 cases l with
 | nil =>
  simp only [A3] at *
  repeat' (first|simp (maxSteps:=9^7) only [seval,exC,ZgZ,ZrY]|simp (maxSteps:=9^7) (disch:=first|with_reducible assumption|omega) only [dxB]|(simp only [kdB];split)|(simp only [kvB];split))
  exact ⟨_,rfl,true,rfl⟩
 | cons a l =>
  have ha : appV ⟨[⟨[.bool n,D z (a :: l),.int .i64 e],false⟩,⟨[.bool false,.nil,.int .i64 0],false⟩],[]⟩ 1 4 .nil (D z (a :: l)) =
    some (.own 2 0 (a :: l).length 1,⟨[⟨[.bool n,D z (a :: l),.int .i64 e],false⟩,⟨[.bool false,.nil,.int .i64 0],false⟩,⟨cells (a :: l),false⟩],[]⟩) :=
   ZuY (h:=⟨[⟨[.bool n,D z (a :: l),.int .i64 e],false⟩,⟨[.bool false,.nil,.int .i64 0],false⟩],[]⟩) (z:=z) (l:=a :: l) (by simp) hl
  simp only [A3] at *
  have hsub : sub (cells (a :: l)) 0 (l.length + 1) = some (cells (a :: l)):=ZrJ (a :: l)
  repeat' (first|simp (maxSteps:=9^7) only [seval,exC,ZgZ,ha,hsub,Zty]|simp (maxSteps:=9^7) (disch:=first|with_reducible assumption|omega) only [dxB]|(simp only [kdB];split)|(simp only [kvB];split))
  exact ⟨_,rfl,false,rfl⟩
theorem ZjT (J : Al G T g) {n z s : Bool} {l : List Nat} {e : Int} (hl : l.length < 549755813888) : ∃ z',run G T 198 [A3 n (D z l) e,.bool s] = some (A3 (s && decide (0 < l.length)) (D z' l) e):=by
 obtain ⟨z',h1⟩:=Zjq J (n:=n) (z:=z) (l:=l) (e:=e) hl
 refine ⟨z',?_⟩
 rw [Zac G T J.U.ZjT]
 have e1 : decide ((0 : Int) < (l.length : Int)) = decide (0 < l.length):=by congr 1; apply propext; omega
 simp only [A3] at *
 cases s <;> (repeat' (first|simp (maxSteps:=9^7) only [seval,exC,ZeQ,h1,e1]|simp (maxSteps:=9^7) (disch:=first|with_reducible assumption|omega) only [dxB]|(simp only [kdB];split)|(simp only [kvB];split)); all_goals try rfl)
theorem Zox (J : Al G T g) {z : Bool} {d : Dy} (hd : mayD d.n (dl d.m) d.e = true) : ∃ z',run G T 184 [DyA z d] = some (.tup [DyA z' (negD d),.int .i64 0]):=by
 obtain ⟨f1,f2,f3,f4,f5⟩:=ZbR hd
 have hl:=(ZaG.1 f1).1
 have h1:=Zcu J d.n z (Zas d.m) d.e
 rw [hd] at h1
 obtain ⟨z',h2⟩:=ZjT J (n:=d.n) (z:=z) (s:=!d.n) (l:=dl d.m) (e:=d.e) (by omega)
 refine ⟨z',?_⟩
 have hv : A3 (!d.n && decide (0 < (dl d.m).length)) (D z' (dl d.m)) d.e = DyA z' (negD d):=by
  by_cases h0 : d.m = 0
  ·have hz:=f2 (Zap.2 h0)
   unfold negD
   rw [if_pos h0,DyA,hz.1,h0,Zag]; rfl
  ·rw [ZDI h0]
   have : 0 < (dl d.m).length:=Nat.pos_of_ne_zero (fun hc => h0 (Zap.1 hc))
   rw [decide_eq_true this,Bool.and_true]; rfl
 rw [hv] at h2
 rw [Zac G T J.U.Zox]
 obtain ⟨n,m,e⟩:=d
 simp only [DyA,A3] at *
 cases n <;> (simp only [Bool.not_true,Bool.not_false] at h2; repeat' (first|simp (maxSteps:=9^7) only [seval,exC,Zjg,h1,h2]|simp (maxSteps:=9^7) (disch:=first|with_reducible assumption|omega) only [dxB]|(simp only [kdB];split)|(simp only [kvB];split)))
def joinD (p : Bool) (x : Nat) (q : Bool) (y : Nat) (e : Int) : Dy:=if p = q then mkD p (x + y) e else if y≤x then mkD p (x - y) e else mkD q (y - x) e
theorem ZnT {m : Nat} {e : Int} (hb : blen m≤131072) (he : -16000000 < e∧e < 16000000) : m = 0∨(-16777216≤e + (tz m : Int)∧e + (tz m : Int)≤16777216):=by
 by_cases h0 : m = 0
 ·exact Or.inl h0
 ·right; have:=ZfW h0; omega
theorem ZxT {x y : Nat} {K : Nat} (hx : blen x≤K) (hy : blen y≤K) : blen (x + y)≤K + 1:=by
 refine Zaf.2 ?_
 have h1:=Zaf.1 hx
 have h2:=Zaf.1 hy
 rw [Nat.pow_succ]; omega
theorem Zhi (J : Al G T g) {p q z y : Bool} {x w : Nat} {e : Int} (hx : blen x≤131071) (hw : blen w≤131071) (he : -16000000 < e∧e < 16000000) :
  ∃ z',run G T 208 [.bool p,D z (dl x),.bool q,D y (dl w),.int .i64 e] = some (.tup [DyA z' (joinD p x q w e),.int .i64 0]):=by
 have mx : mayL (dl x) = true:=Zal (by omega)
 have mw : mayL (dl w) = true:=Zal (by omega)
 have hxw:=ZxT hx hw
 by_cases h1 : p = q
 ·have hl:=Zaa (x + w)
  obtain ⟨z1,a1⟩:=ZoS J (z:=z) (y:=y) (a:=x) (b:=w) mx mw (by omega)
  obtain ⟨z2,a2⟩:=Zbv J (n:=p) (z:=z1) (a:=x + w) (e:=e) (Zal (by omega)) (ZnT (by omega) he) (by omega)
  refine ⟨z2,?_⟩
  unfold joinD
  rw [if_pos h1,Zac G T J.U.Zhi]
  simp only [DyA,A3] at *
  subst h1
  cases p <;> repeat' (first|simp (maxSteps:=9^7) only [seval,exC,ZdI,a1,a2]|simp (maxSteps:=9^7) (disch:=first|with_reducible assumption|omega) only [dxB]|(simp only [kdB];split)|(simp only [kvB];split))
 ·have c0:=Zrv J (z:=z) (y:=y) (a:=x) (b:=w) mx mw
  by_cases h2 : w≤x
  ·have hb:=Zax (Nat.sub_le x w)
   have c1 : ¬ cmpN x w < 0:=by rw [Zfj]; omega
   obtain ⟨z1,a1⟩:=ZoU J (z:=z) (y:=y) (a:=x) (b:=w) mx mw h2
   obtain ⟨z2,a2⟩:=Zbv J (n:=p) (z:=z1) (a:=x - w) (e:=e) (Zal (by omega)) (ZnT (by omega) he) (by omega)
   refine ⟨z2,?_⟩
   unfold joinD
   rw [if_neg h1,if_pos h2,Zac G T J.U.Zhi]
   simp only [DyA,A3] at *
   cases p <;> cases q <;> first | (exact absurd rfl h1) | (repeat' (first|simp (maxSteps:=9^7) only [seval,exC,ZdI,c0,c1,a1,a2]|simp (maxSteps:=9^7) (disch:=first|with_reducible assumption|omega) only [dxB]|(simp only [kdB];split)|(simp only [kvB];split)))
  ·have hb:=Zax (Nat.sub_le w x)
   have c1 : cmpN x w < 0:=by rw [Zfj]; omega
   obtain ⟨z1,a1⟩:=ZoU J (z:=y) (y:=z) (a:=w) (b:=x) mw mx (by omega)
   obtain ⟨z2,a2⟩:=Zbv J (n:=q) (z:=z1) (a:=w - x) (e:=e) (Zal (by omega)) (ZnT (by omega) he) (by omega)
   refine ⟨z2,?_⟩
   unfold joinD
   rw [if_neg h1,if_neg h2,Zac G T J.U.Zhi]
   simp only [DyA,A3] at *
   cases p <;> cases q <;> first | (exact absurd rfl h1) | (repeat' (first|simp (maxSteps:=9^7) only [seval,exC,ZdI,c0,c1,a1,a2]|simp (maxSteps:=9^7) (disch:=first|with_reducible assumption|omega) only [dxB]|(simp only [kdB];split)|(simp only [kvB];split)))
theorem Zqb {a b : Dy} (ha : a.m≠0) (hb : b.m≠0) (he : b.e≤a.e) : joinD a.n (a.m * 2 ^ (a.e - b.e).toNat) b.n b.m b.e = addD a b:=by
 unfold joinD addD
 rw [if_neg ha,if_neg hb,Int.min_eq_right he,show (b.e - b.e).toNat = 0 by omega,Nat.pow_zero,Nat.mul_one]
theorem ZpS (J : Al G T g) {z y : Bool} {a b : Dy} (ha : Bd a 16384) (hb : Bd b 16384) (na : a.m≠0) (nb : b.m≠0) (he : b.e≤a.e) :
  ∃ z',run G T 203 [DyA z a,DyA y b] = some (.tup [DyA z' (addD a b),.int .i64 0]):=by
 obtain ⟨a1,a2,a3⟩:=ha
 obtain ⟨b1,b2,b3⟩:=hb
 have ma : mayL (dl a.m) = true:=Zal (by omega)
 have l1:=ZfQ J (z:=z) ma
 obtain ⟨z1,s1⟩:=Zdb J (z:=z) (a:=a.m) (n:=(a.e - b.e).toNat) ma (Or.inr (by omega)) (by omega)
 rw [show (((a.e - b.e).toNat : Nat) : Int) = a.e - b.e by omega] at s1
 have hbl:=Zam na (a.e - b.e).toNat
 obtain ⟨z2,j1⟩:=Zhi J (p:=a.n) (q:=b.n) (z:=z1) (y:=y) (x:=a.m * 2 ^ (a.e - b.e).toNat) (w:=b.m) (e:=b.e) (by omega) (by omega) (by omega)
 rw [Zqb na nb he] at j1
 have c1 : ¬ ((dl a.m).length : Int) = 0:=fun hc => na (Zap.1 (by omega))
 have c2 : ¬ ((dl b.m).length : Int) = 0:=fun hc => nb (Zap.1 (by omega))
 have c3 : ¬ a.e < b.e:=by omega
 have w1 : IntKind.i64.wrap (a.e - b.e) = a.e - b.e:=Zad (by omega)
 have w2 : IntKind.i64.wrap (a.e - b.e + (blen a.m : Int)) = a.e - b.e + (blen a.m : Int):=Zad (by omega)
 have c4 : ¬ (131073 : Int) < a.e - b.e + (blen a.m : Int):=by omega
 have c5 : ¬ (131072 : Int) < a.e - b.e + (blen a.m : Int):=by omega
 refine ⟨z2,?_⟩
 rw [Zac G T J.U.Zjo]
 generalize addD a b = d at *
 obtain ⟨n,m,e⟩:=a
 obtain ⟨n',m',e'⟩:=b
 clear hbl a1 a2 a3 b1 b2 b3
 simp only [DyA,A3] at *
 repeat' (first|simp (maxSteps:=9^7) only [seval,exC,ZdH,c1,c2,c3,c4,c5,w1,w2,l1,s1,j1]|simp (maxSteps:=9^7) (disch:=first|with_reducible assumption|omega) only [dxB]|(simp only [kdB];split)|(simp only [kvB];split))
theorem Zjo (J : Al G T g) {z y : Bool} {a b : Dy} (ha : Bd a 16384) (hb : Bd b 16384) (za : Nz a) (zb : Nz b) :
  ∃ z',run G T 203 [DyA z a,DyA y b] = some (.tup [DyA z' (addD a b),.int .i64 0]):=by
 by_cases na : a.m = 0
 ·have hl:=Zaa b.m
  have hbl:=hb.bl
  obtain ⟨z1,h1⟩:=Zjq J (n:=b.n) (z:=y) (l:=dl b.m) (e:=b.e) (by omega)
  have c1 : ((dl a.m).length : Int) = 0:=by have:=Zap.2 na; omega
  refine ⟨z1,?_⟩
  rw [Zac G T J.U.Zjo]
  unfold addD
  rw [if_pos na]
  obtain ⟨n,m,e⟩:=a
  obtain ⟨n',m',e'⟩:=b
  simp only [DyA,A3] at *
  repeat' (first|simp (maxSteps:=9^7) only [seval,exC,ZdH,c1,h1]|simp (maxSteps:=9^7) (disch:=first|with_reducible assumption|omega) only [dxB]|(simp only [kdB];split)|(simp only [kvB];split))
 ·by_cases nb : b.m = 0
  ·have hl:=Zaa a.m
   have hbl:=ha.bl
   obtain ⟨z1,h1⟩:=Zjq J (n:=a.n) (z:=z) (l:=dl a.m) (e:=a.e) (by omega)
   have c1 : ¬ ((dl a.m).length : Int) = 0:=fun hc => na (Zap.1 (by omega))
   have c2 : ((dl b.m).length : Int) = 0:=by have:=Zap.2 nb; omega
   refine ⟨z1,?_⟩
   rw [Zac G T J.U.Zjo]
   unfold addD
   rw [if_neg na,if_pos nb]
   obtain ⟨n,m,e⟩:=a
   obtain ⟨n',m',e'⟩:=b
   simp only [DyA,A3] at *
   repeat' (first|simp (maxSteps:=9^7) only [seval,exC,ZdH,c1,c2,h1]|simp (maxSteps:=9^7) (disch:=first|with_reducible assumption|omega) only [dxB]|(simp only [kdB];split)|(simp only [kvB];split))
  ·by_cases he : b.e≤a.e
   ·exact ZpS J ha hb na nb he
   ·obtain ⟨a1,a2,a3⟩:=ha
    obtain ⟨b1,b2,b3⟩:=hb
    have mb : mayL (dl b.m) = true:=Zal (by omega)
    have l1:=ZfQ J (z:=y) mb
    obtain ⟨z1,s1⟩:=Zdb J (z:=y) (a:=b.m) (n:=(b.e - a.e).toNat) mb (Or.inr (by omega)) (by omega)
    rw [show (((b.e - a.e).toNat : Nat) : Int) = b.e - a.e by omega] at s1
    have hbl:=Zam nb (b.e - a.e).toNat
    obtain ⟨z2,j1⟩:=Zhi J (p:=b.n) (q:=a.n) (z:=z1) (y:=z) (x:=b.m * 2 ^ (b.e - a.e).toNat) (w:=a.m) (e:=a.e) (by omega) (by omega) (by omega)
    rw [Zqb nb na (by omega),ZuV zb za] at j1
    have c1 : ¬ ((dl a.m).length : Int) = 0:=fun hc => na (Zap.1 (by omega))
    have c2 : ¬ ((dl b.m).length : Int) = 0:=fun hc => nb (Zap.1 (by omega))
    have c3 : a.e < b.e:=by omega
    have w1 : IntKind.i64.wrap (b.e - a.e) = b.e - a.e:=Zad (by omega)
    have w2 : IntKind.i64.wrap (b.e - a.e + (blen b.m : Int)) = b.e - a.e + (blen b.m : Int):=Zad (by omega)
    have c4 : ¬ (131073 : Int) < b.e - a.e + (blen b.m : Int):=by omega
    have c5 : ¬ (131072 : Int) < b.e - a.e + (blen b.m : Int):=by omega
    refine ⟨z2,?_⟩
    rw [Zac G T J.U.Zjo]
    generalize addD a b = d at *
    obtain ⟨n,m,e⟩:=a
    obtain ⟨n',m',e'⟩:=b
    clear hbl a1 a2 a3 b1 b2 b3
    simp only [DyA,A3] at *
    repeat' (first|simp (maxSteps:=9^7) only [seval,exC,ZdH,c1,c2,c3,c4,c5,w1,w2,l1,s1,j1]|simp (maxSteps:=9^7) (disch:=first|with_reducible assumption|omega) only [dxB]|(simp only [kdB];split)|(simp only [kvB];split))
theorem Zkw (J : Al G T g) {z y : Bool} {a b : Dy} (ha : Bd a 16384) (hb : Bd b 16384) (da : mayD a.n (dl a.m) a.e = true) (db : mayD b.n (dl b.m) b.e = true) :
  ∃ z',run G T 195 [DyA z a,DyA y b] = some (.tup [DyA z' (addD a b),.int .i64 0]):=by
 have h1:=ZiF J (n:=a.n) (z:=z) (n':=b.n) (z':=y) (Zas a.m) (Zas b.m) (e:=a.e) (e':=b.e)
 rw [da,db,Bool.and_self] at h1
 obtain ⟨z',h2⟩:=Zjo J (z:=z) (y:=y) ha hb (Zwt da) (Zwt db)
 refine ⟨z',?_⟩
 rw [Zac G T J.U.Zkw]
 generalize addD a b = d at *
 obtain ⟨n,m,e⟩:=a
 obtain ⟨n',m',e'⟩:=b
 simp only [DyA,A3] at *
 repeat' (first|simp (maxSteps:=9^7) only [seval,exC,Zje,h1,h2]|simp (maxSteps:=9^7) (disch:=first|with_reducible assumption|omega) only [dxB]|(simp only [kdB];split)|(simp only [kvB];split))
theorem Zjn (J : Al G T g) {z y : Bool} {a b : Dy} (ha : Bd a 16384) (hb : Bd b 16384) (da : mayD a.n (dl a.m) a.e = true) (db : mayD b.n (dl b.m) b.e = true) :
  ∃ z',run G T 182 [DyA z a,DyA y b] = some (.tup [DyA z' (mulD a b),.int .i64 0]):=by
 have h1:=ZiF J (n:=a.n) (z:=z) (n':=b.n) (z':=y) (Zas a.m) (Zas b.m) (e:=a.e) (e':=b.e)
 rw [da,db,Bool.and_self] at h1
 obtain ⟨a1,a2,a3⟩:=ha
 obtain ⟨b1,b2,b3⟩:=hb
 have hl1:=Zaa a.m
 have hl2:=Zaa b.m
 obtain ⟨z1,h2⟩:=Zrw J (z:=z) (y:=y) (a:=a.m) (b:=b.m) (Zal (by omega)) (Zal (by omega)) (by omega)
 have hb : blen (a.m * b.m)≤32768:=by have:=Zvq a1 b1; omega
 obtain ⟨z2,h3⟩:=Zbv J (n:=a.n != b.n) (z:=z1) (a:=a.m * b.m) (e:=a.e + b.e) (Zal (by omega)) (ZnT (by omega) (by omega)) (by omega)
 have w1 : IntKind.i64.wrap (a.e + b.e) = a.e + b.e:=Zad (by omega)
 refine ⟨z2,?_⟩
 rw [Zac G T J.U.Zjn]
 unfold mulD
 clear hb
 obtain ⟨n,m,e⟩:=a
 obtain ⟨n',m',e'⟩:=b
 have hne : (n != n') = !decide (n = n'):=by cases n <;> cases n' <;> rfl
 simp only at *
 rw [hne] at h3 ⊢
 simp only [DyA,A3] at *
 repeat' (first|simp (maxSteps:=9^7) only [seval,exC,Zjf,h1,h2,w1,h3]|simp (maxSteps:=9^7) (disch:=first|with_reducible assumption|omega) only [dxB]|(simp only [kdB];split)|(simp only [kvB];split))
theorem ZxQ {w k : Nat} (hk : k < 64) (hw : w < 2 ^ (k + 1)) : w &&& (2 ^ 64 - (2 ^ k + 1)) = w % 2 ^ k:=by
 apply Nat.eq_of_testBit_eq
 intro i
 have hp : (2 : Nat) ^ k < 2 ^ 64:=Nat.pow_lt_pow_right (by decide) hk
 rw [Nat.testBit_and,Nat.testBit_mod_two_pow,Nat.testBit_two_pow_sub_succ hp,Nat.testBit_two_pow]
 by_cases h1 : i < k
 ·rw [decide_eq_true h1,decide_eq_true (show i < 64 by omega),decide_eq_false (show ¬ k = i by omega)]; simp
 ·rw [decide_eq_false h1]
  by_cases h2 : i = k
  ·rw [decide_eq_true h2.symm]; simp
  ·have : w.testBit i = false:=Nat.testBit_lt_two_pow (Nat.lt_of_lt_of_le hw (Nat.pow_le_pow_right (by decide) (by omega)))
   rw [this]; simp
theorem andn64 {w k : Nat} (hk : k < 64) (hw : w < 2 ^ (k + 1)) : andNotI .u64 (w : Int) ((2 ^ k : Nat) : Int) = ((w % 2 ^ k : Nat) : Int):=by
 have hp : (2 : Nat) ^ k < 2 ^ 64:=Nat.pow_lt_pow_right (by decide) hk
 have hw2 : w < 2 ^ 64:=Nat.lt_of_lt_of_le hw (Nat.pow_le_pow_right (by decide) (by omega))
 have hlt : w % 2 ^ k < 2 ^ k:=Nat.mod_lt _ (Nat.two_pow_pos k)
 rw [ZnN]
 show IntKind.u64.wrap ((BitVec.ofInt 64 (w : Int) &&& ~~~BitVec.ofInt 64 ((2 ^ k : Nat) : Int)).toNat : Int) = _
 rw [show BitVec.ofInt 64 (w : Int) = BitVec.ofNat 64 w from rfl,show BitVec.ofInt 64 ((2 ^ k : Nat) : Int) = BitVec.ofNat 64 (2 ^ k) from rfl,BitVec.toNat_and,BitVec.toNat_not,BitVec.toNat_ofNat,BitVec.toNat_ofNat,Nat.mod_eq_of_lt hw2,Nat.mod_eq_of_lt hp,
  show 2 ^ 64 - 1 - 2 ^ k = 2 ^ 64 - (2 ^ k + 1) by omega,ZxQ hk hw,Zfr]
 omega
theorem Zzj {w : Nat} (h : w < 4294967296) : andNotI .u64 (w : Int) 2147483648 = ((w % 2147483648 : Nat) : Int):=andn64 (k:=31) (by decide) h
theorem Zzi {w : Nat} (h : w < 18446744073709551616) : andNotI .u64 (w : Int) 9223372036854775808 = ((w % 9223372036854775808 : Nat) : Int):=andn64 (k:=63) (by decide) h
theorem Zuf {w k : Nat} (hw : w < 2 ^ k) : w &&& 2 ^ k = 0:=by
 apply Nat.eq_of_testBit_eq
 intro i
 rw [Nat.testBit_and,Nat.testBit_two_pow,Nat.zero_testBit]
 by_cases h : k = i
 ·subst h; rw [Nat.testBit_lt_two_pow hw]; rfl
 ·rw [decide_eq_false h,Bool.and_false]
theorem Zue {w k : Nat} (h1 : 2 ^ k≤w) (hw : w < 2 ^ (k + 1)) : w &&& 2 ^ k = 2 ^ k:=by
 apply Nat.eq_of_testBit_eq
 intro i
 rw [Nat.testBit_and,Nat.testBit_two_pow]
 rw [Nat.pow_succ] at hw
 by_cases h : k = i
 ·subst h
  have : w / 2 ^ k = 1:=Nat.div_eq_of_lt_le (by omega) (by omega)
  rw [Nat.testBit_eq_decide_div_mod_eq,this]; rfl
 ·rw [decide_eq_false h,Bool.and_false]
theorem ZuX {w k : Nat} (hk : k < 64) (hw : w < 2 ^ (k + 1)) : andI .u64 (w : Int) ((2 ^ k : Nat) : Int) = if 2 ^ k≤w then ((2 ^ k : Nat) : Int) else 0:=by
 have hp : (2 : Nat) ^ k < 2 ^ 64:=Nat.pow_lt_pow_right (by decide) hk
 have hw2 : w < 2 ^ 64:=Nat.lt_of_lt_of_le hw (Nat.pow_le_pow_right (by decide) (by omega))
 rw [and64 (by omega) (by omega)]
 by_cases h : 2 ^ k≤w
 ·rw [if_pos h,Zue h hw]
 ·rw [if_neg h,Zuf (by omega)]; rfl
theorem ZEH {w : Nat} (h : w < 4294967296) : andI .u64 (w : Int) 2147483648 = if 2147483648≤w then 2147483648 else 0:=ZuX (k:=31) (by decide) h
theorem ZEG {w : Nat} (h : w < 18446744073709551616) : andI .u64 (w : Int) 9223372036854775808 = if 9223372036854775808≤w then 9223372036854775808 else 0:=ZuX (k:=63) (by decide) h
theorem ZCG {w : Nat} (h : w < 18446744073709551616) : andI .u64 (w : Int) 8388607 = ((w % 8388608 : Nat) : Int):=Zom (j:=23) h (by decide)
theorem ZCF {w : Nat} (h : w < 18446744073709551616) : andI .u64 (w : Int) 4503599627370495 = ((w % 4503599627370496 : Nat) : Int):=Zom (j:=52) h (by decide)
theorem or_s : orI .u64 2147483648 2147483647 = 4294967295:=by rw [Zne]; rfl
theorem or_d : orI .u64 9223372036854775808 9223372036854775807 = 18446744073709551615:=by rw [Zne]; rfl
theorem ZFf : orI .u64 2139095040 4194304 = 2143289344:=by rw [Zne]; rfl
theorem ZFd : orI .u64 9218868437227405312 2251799813685248 = 9221120237041090560:=by rw [Zne]; rfl
theorem ZpA (e : Env) (h : Heap) : evL G T ZbQ e h = kS G T (evL G T Zbn (keepE [4,6,18,19,20] e) h) ZbQ:=Zae G T rfl e h
theorem ia11 (x : AV) (k : IntKind) : iaddrV 1 (.imm 1 [x]) (.int k 0) = some (.iptr [x] 0):=rfl
theorem rd11 (h : Mem) (x : AV) : rdAt G h 1 (.iptr [x] 0) = some [x]:=rfl
theorem Zfz (J : Al G T g) (F : Fm) {w : Nat} (hw : w < 18446744073709551616) : run G T 95 [.int .u8 F.u,.imm 1 [.int .u64 (w : Int)]] = some (.tup [shA F,.int .i64 (if w < 2 * F.sg then 0 else 6)]):=by
 rw [Zac G T J.D.word_open]
 have h1:=ZgK (G:=G) J F
 have wr : IntKind.i64.wrap 1 = 1:=rfl
 by_cases hk : w < 2 * F.sg
 ·rw [if_pos hk]
  cases F
  ·simp only [shA,Fm.u,Fm.fr,Fm.sg,Fm.most,Int.cast_ofNat_Int,Nat.reduceMul] at *
   have c1 : ¬ (4294967295 : Int) < (w : Int):=by omega
   repeat' (first|simp (maxSteps:=9^7) only [seval,exC,ZcQ,h1,ZpA,Zbn,ia11,rd11,or_s,or_d,c1,wr]|simp (maxSteps:=9^7) (disch:=first|with_reducible assumption|omega) only [dxB]|(simp only [kdB];split)|(simp only [kvB];split))
  ·simp only [shA,Fm.u,Fm.fr,Fm.sg,Fm.most,Int.cast_ofNat_Int,Nat.reduceMul] at *
   have c1 : ¬ (18446744073709551615 : Int) < (w : Int):=by omega
   repeat' (first|simp (maxSteps:=9^7) only [seval,exC,ZcQ,h1,ZpA,Zbn,ia11,rd11,or_s,or_d,c1,wr]|simp (maxSteps:=9^7) (disch:=first|with_reducible assumption|omega) only [dxB]|(simp only [kdB];split)|(simp only [kvB];split))
 ·rw [if_neg hk]
  cases F
  ·simp only [shA,Fm.u,Fm.fr,Fm.sg,Fm.most,Int.cast_ofNat_Int,Nat.reduceMul] at *
   have c1 : (4294967295 : Int) < (w : Int):=by omega
   repeat' (first|simp (maxSteps:=9^7) only [seval,exC,ZcQ,h1,ZpA,Zbn,ia11,rd11,or_s,or_d,c1,wr]|simp (maxSteps:=9^7) (disch:=first|with_reducible assumption|omega) only [dxB]|(simp only [kdB];split)|(simp only [kvB];split))
  ·simp only [Fm.sg] at hk; omega
theorem ZxV (F : Fm) (w : Nat) : (F.ex w = 0∧F.fc w = 0∧F.cls w = 1)∨(F.ex w = 0∧F.fc w≠0∧F.cls w = 2)∨(F.ex w≠0∧F.ex w < F.most∧F.cls w = 3)∨(F.ex w≠0∧¬ F.ex w < F.most∧F.fc w = 0∧F.cls w = 4)∨(F.ex w≠0∧¬ F.ex w < F.most∧F.fc w≠0∧F.cls w = 5):=by
 unfold Fm.cls
 generalize F.ex w = x
 generalize F.fc w = y
 repeat' split
 all_goals omega
theorem ZBH (F : Fm) (w : Nat) : (F.ng w = true∧F.sg≤w)∨(F.ng w = false∧w < F.sg):=by
 unfold Fm.ng
 by_cases h : F.sg≤w
 ·left; exact ⟨decide_eq_true h,h⟩
 ·right; exact ⟨decide_eq_false h,by omega⟩
theorem ZlG (J : Al G T g) (F : Fm) {w : Nat} (hw : w < 2 * F.sg) : run G T 201 [shA F,.int .u64 (w : Int)] = some (.int .u8 (F.cls w)):=by
 rw [Zac G T J.U.word_shape_class]
 obtain ⟨q1,q2,q3,q4⟩:=ZlF hw
 have hc:=ZxV F w
 have hlt : w % F.sg < F.sg:=Nat.mod_lt _ (by cases F <;> decide)
 clear q1
 generalize F.cls w = c at *
 generalize F.ex w = x at *
 generalize F.fc w = y at *
 cases F
 ·have h2:=Zzj (w:=w) hw
  have hi:=Zlg J .s
  simp only [shA,Fm.u,Fm.fr,Fm.sg,Fm.most,Int.cast_ofNat_Int,Nat.reducePow,Nat.reduceMul] at *
  generalize w % 2147483648 = s at *
  repeat' (first|simp (maxSteps:=9^7) only [seval,exC,Zbj,h2,hi]|simp (maxSteps:=9^7) (disch:=first|with_reducible assumption|omega) only [dxB]|(simp only [kdB];split)|(simp only [kvB];split))
  all_goals (refine Zmm ?_; omega)
 ·have h2:=Zzi (w:=w) hw
  have hi:=Zlg J .d
  simp only [shA,Fm.u,Fm.fr,Fm.sg,Fm.most,Int.cast_ofNat_Int,Nat.reducePow,Nat.reduceMul] at *
  generalize w % 9223372036854775808 = s at *
  repeat' (first|simp (maxSteps:=9^7) only [seval,exC,Zbj,h2,hi]|simp (maxSteps:=9^7) (disch:=first|with_reducible assumption|omega) only [dxB]|(simp only [kdB];split)|(simp only [kvB];split))
  all_goals (refine Zmm ?_; omega)
theorem Zof (J : Al G T g) (F : Fm) {w : Nat} (hw : w < 2 * F.sg) : run G T 200 [shA F,.int .u64 (w : Int)] = some (fldA (F.ng w) (F.ex w) (F.fc w)):=by
 rw [Zac G T J.U.word_shape_split]
 have hlt : w % F.sg < F.sg:=Nat.mod_lt _ (by cases F <;> decide)
 have hn:=ZBH F w
 have e2 : w % F.sg / 2 ^ F.fr = F.ex w:=rfl
 have e3 : w % F.sg % 2 ^ F.fr = F.fc w:=rfl
 have q4:=(ZlF hw).2.2.2
 generalize F.ng w = n at *
 generalize F.ex w = x at *
 generalize F.fc w = y at *
 cases F
 ·have h2:=Zzj (w:=w) hw
  have h4:=ZEH (w:=w) hw
  simp only [shA,Fm.u,Fm.fr,Fm.sg,Fm.most,fldA,Int.cast_ofNat_Int,Nat.reducePow] at *
  generalize w % 2147483648 = s at *
  have h5:=ZCG (w:=s) (by omega)
  rw [e3] at h5
  have w1 : (s : Int) / 8388608 = (x : Int):=by omega
  rcases hn with ⟨rfl,hn⟩ | ⟨rfl,hn⟩
  ·rw [if_pos hn] at h4
   repeat' (first|simp (maxSteps:=9^7) only [seval,exC,ZaF,h2,h4,h5,w1]|simp (maxSteps:=9^7) (disch:=first|with_reducible assumption|omega) only [dxB]|(simp only [kdB];split)|(simp only [kvB];split))
  ·rw [if_neg (by omega)] at h4
   repeat' (first|simp (maxSteps:=9^7) only [seval,exC,ZaF,h2,h4,h5,w1]|simp (maxSteps:=9^7) (disch:=first|with_reducible assumption|omega) only [dxB]|(simp only [kdB];split)|(simp only [kvB];split))
 ·have h2:=Zzi (w:=w) hw
  have h4:=ZEG (w:=w) hw
  simp only [shA,Fm.u,Fm.fr,Fm.sg,Fm.most,fldA,Int.cast_ofNat_Int,Nat.reducePow] at *
  generalize w % 9223372036854775808 = s at *
  have h5:=ZCF (w:=s) (by omega)
  rw [e3] at h5
  have w1 : (s : Int) / 4503599627370496 = (x : Int):=by omega
  rcases hn with ⟨rfl,hn⟩ | ⟨rfl,hn⟩
  ·rw [if_pos hn] at h4
   repeat' (first|simp (maxSteps:=9^7) only [seval,exC,ZaF,h2,h4,h5,w1]|simp (maxSteps:=9^7) (disch:=first|with_reducible assumption|omega) only [dxB]|(simp only [kdB];split)|(simp only [kvB];split))
  ·rw [if_neg (by omega)] at h4
   repeat' (first|simp (maxSteps:=9^7) only [seval,exC,ZaF,h2,h4,h5,w1]|simp (maxSteps:=9^7) (disch:=first|with_reducible assumption|omega) only [dxB]|(simp only [kdB];split)|(simp only [kvB];split))
theorem Zkf {F : Fm} {w : Nat} (h : w < 2 * F.sg) : w < 18446744073709551616:=by
 have : 2 * F.sg≤18446744073709551616:=by cases F <;> decide
 omega
theorem Zba (J : Al G T g) (F : Fm) {w : Nat} (hw : w < 2 * F.sg) : run G T 193 [.int .u8 F.u,.int .u64 (w : Int)] = some (.tup [.int .u8 (F.cls w),.int .i64 0]):=by
 rw [Zac G T J.U.Zba]
 have h1:=Zfz J F (Zkf hw)
 rw [if_pos hw] at h1
 have h2:=ZlG J F hw
 generalize F.cls w = c at *
 simp only [shA] at *
 repeat' (first|simp (maxSteps:=9^7) only [seval,exC,ZeD,h1,h2]|simp (maxSteps:=9^7) (disch:=first|with_reducible assumption|omega) only [dxB]|(simp only [kdB];split)|(simp only [kvB];split))
theorem ZdX (J : Al G T g) (F : Fm) {w : Nat} (hw : w < 2 * F.sg) : run G T 192 [.int .u8 F.u,.int .u64 (w : Int)] = some (.tup [fldA (F.ng w) (F.ex w) (F.fc w),.int .i64 0]):=by
 rw [Zac G T J.U.ZdX]
 have h1:=Zfz J F (Zkf hw)
 rw [if_pos hw] at h1
 have h2:=Zof J F hw
 generalize F.ng w = n at *
 generalize F.ex w = x at *
 generalize F.fc w = y at *
 simp only [shA,fldA] at *
 repeat' (first|simp (maxSteps:=9^7) only [seval,exC,Zgv,h1,h2]|simp (maxSteps:=9^7) (disch:=first|with_reducible assumption|omega) only [dxB]|(simp only [kdB];split)|(simp only [kvB];split))
theorem Zki (J : Al G T g) (F : Fm) {w : Nat} (hw : w < 2 * F.sg) : run G T 202 [.int .u8 F.u,.int .u64 (w : Int)] = some (.tup [shA F,.int .i64 (if F.fin w then 0 else 7)]):=by
 rw [Zac G T J.U.Zki]
 have h1:=Zfz J F (Zkf hw)
 rw [if_pos hw] at h1
 have h2:=ZlG J F hw
 have h3:=Zat (F:=F) (w:=w)
 have h4:=ZcE F w
 by_cases hf : F.fin w
 ·rw [if_pos hf]
  have h5:=h3.1 hf
  clear h3
  generalize F.cls w = c at *
  have c1 : ¬ (4 : Int)≤c:=by omega
  simp only [shA] at *
  repeat' (first|simp (maxSteps:=9^7) only [seval,exC,Zdw,h1,h2,c1]|simp (maxSteps:=9^7) (disch:=first|with_reducible assumption|omega) only [dxB]|(simp only [kdB];split)|(simp only [kvB];split))
 ·rw [if_neg hf]
  have h5 : ¬ (F.cls w = 1∨F.cls w = 2∨F.cls w = 3):=fun h => hf (h3.2 h)
  clear h3
  generalize F.cls w = c at *
  have c1 : (4 : Int)≤c:=by omega
  simp only [shA] at *
  repeat' (first|simp (maxSteps:=9^7) only [seval,exC,Zdw,h1,h2,c1]|simp (maxSteps:=9^7) (disch:=first|with_reducible assumption|omega) only [dxB]|(simp only [kdB];split)|(simp only [kvB];split))
theorem ZFc {y k : Nat} (h : y < 2 ^ k) (hk : k < 63) : orI .u64 (y : Int) ((2 ^ k : Nat) : Int) = ((2 ^ k + y : Nat) : Int):=by
 have hp : (2 : Nat) ^ k < 2 ^ 64:=Nat.pow_lt_pow_right (by decide) (by omega)
 have e:=ZkI (c:=y) (x:=1) (s:=k) h
 rw [Nat.one_mul] at e
 rw [or64 (by omega) (by omega),e,Nat.add_comm]
theorem ZbS (J : Al G T g) (F : Fm) {w : Nat} (hw : w < 2 * F.sg) :
  ∃ z k,run G T 194 [.int .u8 F.u,.int .u64 (w : Int)] = some (.tup [DyA z (F.vl w),.int .i64 k]):=by
 have h1:=Zki J F hw
 by_cases hf : F.fin w
 ·rw [if_pos hf] at h1
  have h2:=Zof J F hw
  have h3:=Zua J F
  have hy : F.fc w < 2 ^ F.fr:=Nat.mod_lt _ (Nat.two_pow_pos _)
  have hp : 2 ^ F.fr≤4503599627370496:=by cases F <;> decide
  have hF:=Zak F
  have hm : F.most≤2047:=by cases F <;> decide
  have hvl : F.vl w = F.val w:=if_pos hf
  rw [hvl]
  unfold Fm.fin at hf
  unfold Fm.val
  have hor:=ZFc hy (by omega)
  generalize F.ex w = x at *
  generalize F.fc w = y at *
  generalize F.ng w = n at *
  have hb1 : blen y≤53:=Zaf.2 (by omega)
  have hb2 : blen (2 ^ F.fr + y)≤53:=Zaf.2 (by omega)
  have hmin : min F.fr 64 = F.fr:=by omega
  have hp0:=Nat.two_pow_pos F.fr
  by_cases h0 : x = 0
  ·subst h0
   obtain ⟨z1,o1⟩:=Znc J (n:=y) (by omega)
   obtain ⟨z2,o2⟩:=Zbv J (n:=n) (z:=z1) (a:=y) (e:=F.low) (Zal (by omega)) (ZnT (by omega) (by omega)) (by omega)
   have w1 : max (0 : Int) 1 = 1:=by decide
   have w2 : IntKind.i64.wrap (1 - 1) = 0:=rfl
   have w3 : IntKind.i64.wrap (0 + F.low) = F.low:=by rw [Int.zero_add]; exact Zad (by omega)
   have w4 : IntKind.i64.wrap F.low = F.low:=Zad (by omega)
   refine ⟨z2,0,?_⟩
   rw [if_pos rfl,Zac G T J.U.ZbS]
   simp only [shA,fldA,cast0,DyA,A3] at *
   repeat' (first|simp (maxSteps:=9^7) only [seval,exC,Zda,h1,h2,h3,o1,w1,w2,w3,w4,ZiL,o2,Int.zero_add]|simp (maxSteps:=9^7) (disch:=first|with_reducible assumption|omega) only [dxB]|(simp only [kdB];split)|(simp only [kvB];split))
  ·obtain ⟨z1,o1⟩:=Znc J (n:=2 ^ F.fr + y) (by omega)
   obtain ⟨z2,o2⟩:=Zbv J (n:=n) (z:=z1) (a:=2 ^ F.fr + y) (e:=x - 1 + F.low) (Zal (by omega)) (ZnT (by omega) (by omega)) (by omega)
   have c0 : (0 : Int) < (x : Int):=by omega
   have w1 : max (x : Int) 1 = x:=by omega
   have w2 : IntKind.i64.wrap ((x : Int) - 1) = x - 1:=Zad (by omega)
   have w3 : IntKind.i64.wrap ((x : Int) - 1 + F.low) = x - 1 + F.low:=Zad (by omega)
   have w5 : (1 * (2 : Int) ^ F.fr) % 18446744073709551616 = ((2 ^ F.fr : Nat) : Int):=by rw [ZaS]; omega
   have w6 : ((2 : Int) ^ F.fr) % 18446744073709551616 = ((2 ^ F.fr : Nat) : Int):=by rw [ZaS]; omega
   refine ⟨z2,0,?_⟩
   rw [if_neg h0,Zac G T J.U.ZbS]
   simp only [shA,fldA,DyA,A3] at *
   repeat' (first|simp (maxSteps:=9^7) only [seval,exC,Zda,h1,h2,h3,c0,hmin,w5,w6,hor,o1,w1,w2,w3,ZiL,o2]|simp (maxSteps:=9^7) (disch:=first|with_reducible assumption|omega) only [dxB]|(simp only [kdB];split)|(simp only [kvB];split))
 ·rw [if_neg hf] at h1
  refine ⟨true,7,?_⟩
  have hvl : F.vl w = ⟨false,0,0⟩:=if_neg hf
  rw [hvl,Zac G T J.U.ZbS]
  simp only [shA,DyA,A3,Zag] at *
  repeat' (first|simp (maxSteps:=9^7) only [seval,exC,Zda,h1]|simp (maxSteps:=9^7) (disch:=first|with_reducible assumption|omega) only [dxB]|(simp only [kdB];split)|(simp only [kvB];split))
  all_goals try rfl
theorem ZqW (J : Al G T g) (F : Fm) : run G T 204 [shA F] = some (.int .u64 (F.nan : Int)):=by
 rw [Zac G T J.U.word_shape_none]
 have h:=Zlg (G:=G) J F
 cases F <;> (
  simp only [shA,Fm.u,Fm.fr,Fm.sg,Fm.most,Fm.nan,Int.cast_ofNat_Int,Nat.reducePow,Nat.reduceMul,Nat.reduceSub,Nat.reduceAdd] at *
  repeat' (first|simp (maxSteps:=9^7) only [seval,exC,Zcs,h,ZFf,ZFd]|simp (maxSteps:=9^7) (disch:=first|with_reducible assumption|omega) only [dxB]|(simp only [kdB];split)|(simp only [kvB];split)))
theorem ZfX (J : Al G T g) (F : Fm) : run G T 196 [.int .u8 F.u] = some (.tup [.int .u64 (F.nan : Int),.int .i64 0]):=by
 rw [Zac G T J.U.ZfX]
 have h:=Zfy (G:=G) J F (n:=false) (k:=204) (ZqW J F) (by cases F <;> decide)
 rw [show F.nan + F.sgn false = F.nan from rfl] at h
 repeat' (first|simp (maxSteps:=9^7) only [seval,exC,ZhW,h]|simp (maxSteps:=9^7) (disch:=first|with_reducible assumption|omega) only [dxB]|(simp only [kdB];split)|(simp only [kvB];split))
theorem ZbB (a b : Dy) : Nz (mulD a b):=ZnE _ _ _
theorem ZfY {a b : Dy} {K : Nat} (ha : Bd a K) (hb : Bd b K) : Bd (mulD a b) (4 * K):=by
 obtain ⟨a1,a2,a3⟩:=ha
 obtain ⟨b1,b2,b3⟩:=hb
 have hb : blen (a.m * b.m)≤2 * K:=by
  refine Zaf.2 ?_
  rw [show 2 * K = K + K by omega,Nat.pow_add]
  exact Nat.mul_lt_mul_of_lt_of_lt (Zaf.1 a1) (Zaf.1 b1)
 exact Zuc (by omega) (by omega) (by omega)
theorem ZaQ {d : Dy} (h : Nz d) (b : Bd d 131072) : mayD d.n (dl d.m) d.e = true:=by
 obtain ⟨b1,b2,b3⟩:=b
 have hm : mayL (dl d.m) = true:=Zal b1
 simp only [mayD,hm,Bool.true_and]
 by_cases h0 : d.m = 0
 ·rw [h.1 h0,Zag]; rfl
 ·have h1 : ¬ (dl d.m).length = 0:=fun hc => h0 (Zap.1 hc)
  rw [if_neg h1,dg0]
  have h2:=h.2 h0
  simp only [Bool.and_eq_true,decide_eq_true_eq]
  exact ⟨h2,by omega,by omega⟩
theorem ZbA {F : Fm} {w : Nat} (h : F.fin w) : F.vl w = F.val w:=if_pos h
def apB (bs : List Blk) (f : List Nat) (b n : Nat) (o : Option Blk) (w : Option (List AV)) : Option (AV × Heap) :=
 match w with
 | some nw => match o with
  | some k => if k.dead = false∧f.contains b = false∧n * 5≤k.cs.length∧(n + 1) * 48≤boundApp then some (.own bs.length 0 (n + 1) 5,⟨bs.set b ⟨k.cs,true⟩ ++ [⟨k.cs.take (n * 5) ++ nw,false⟩],f⟩) else none
  | none => none
 | none => none
theorem ap_x (bs : List Blk) (f : List Nat) (b n c : Nat) : appV ⟨bs,f⟩ 5 48 (.own b 0 n 5) (.own c 0 1 5) = apB bs f b n (bs[b]?) (subB (bs[c]?) 0 5):=by
 have h1:=Zpb bs f c 0 5
 simp only [appV,sliceCells,if_true,Nat.one_mul,h1]
 cases subB (bs[c]?) 0 5 with
 | none => rfl
 | some nw =>
  simp only [Option.map_some,apB]
  cases bs[b]? with
  | none => rfl
  | some k => simp
theorem ap_0 (bs : List Blk) (b : Nat) (cs nw : List AV) : apB bs [] b 0 (some ⟨cs,false⟩) (some nw) = some (.own bs.length 0 1 5,⟨bs.set b ⟨cs,true⟩ ++ [⟨nw,false⟩],[]⟩):=by
 simp [apB,boundApp]
theorem ap_1 (bs : List Blk) (b : Nat) (x1 x2 x3 x4 x5 : AV) (nw : List AV) : apB bs [] b 1 (some ⟨[x1,x2,x3,x4,x5],false⟩) (some nw) = some (.own bs.length 0 2 5,⟨bs.set b ⟨[x1,x2,x3,x4,x5],true⟩ ++ [⟨x1 :: x2 :: x3 :: x4 :: x5 :: nw,false⟩],[]⟩):=by
 simp [apB,boundApp]
theorem ZjO (F : CallF) (d : Option Nat) (os : List IOper) (e : Env) (h : Heap) (n : Nat) (zero : List AV) (ps : List (Nat × Nat × IOpd)) : evOps G F (⟨d,.bslice n 5 zero ps,none⟩ :: os) e h =
  kBs G F (fillA (repA n zero) (ps.map fun (o,n,x) => (o,n,opd e x))) (.own h.b.length 0 n 5) d os e h:=Zja G F d os e h n 5 zero ps
theorem ZCh (e : Env) (h : Heap) : evL G T ZgR e h = kS G T (evL G T ZgQ (keepE [0,10,31,32,33] e) h) ZgR:=Zae G T rfl e h
theorem iw20 (x y : AV) (k : IntKind) : iaddrV 1 (.imm 2 [x,y]) (.int k 0) = some (.iptr [x,y] 0):=rfl
theorem iw21 (x y : AV) (k : IntKind) : iaddrV 1 (.imm 2 [x,y]) (.int k 1) = some (.iptr [x,y] 1):=rfl
theorem rp_0 (h : Mem) (x : AV) (l : List AV) : rdAt G h 1 (.iptr (x :: l) 0) = some [x]:=by simp [rdAt]
theorem rp_1 (h : Mem) (x y : AV) (l : List AV) : rdAt G h 1 (.iptr (x :: y :: l) 1) = some [y]:=by simp [rdAt]
theorem rp_2 (h : Mem) (x y z : AV) (l : List AV) : rdAt G h 1 (.iptr (x :: y :: z :: l) 2) = some [z]:=by simp [rdAt]
theorem ZAk (z : List AV) : repA 3 z = z ++ (z ++ z):=by simp [repA]
theorem wr_1 : IntKind.i64.wrap (0 + 1) = 1:=rfl
theorem wr_2 : IntKind.i64.wrap (1 + 1) = 2:=rfl
theorem wr_3 : IntKind.i64.wrap (2 + 1) = 3:=rfl
theorem wr1 : IntKind.i64.wrap 1 = 1:=rfl
theorem wr2 : IntKind.i64.wrap 2 = 2:=rfl
theorem wr3 : IntKind.i64.wrap 3 = 3:=rfl
def ptC (F : Fm) (w : Nat) (z : Bool) : List AV:=[.int .u8 (F.cls w),.bool (F.ng w),.bool (F.vl w).n,D z (dl (F.vl w).m),.int .i64 (F.vl w).e]
set_option maxHeartbeats 8000000 in
theorem Zoc (J : Al G T g) (F : Fm) {md : Int} (hm : 1≤md∧md≤5) {a : Nat} {b : Nat} (ha : a < 2 * F.sg) (hb : b < 2 * F.sg) :
  ∃ z1 z2,run G T 176 [.int .u8 F.u,.int .u8 md,.imm 2 [.int .u64 (a : Int),.int .u64 (b : Int)]] = some (.tup [.imm 2 (ptC F a z1 ++ ptC F b z2),.int .i64 0]):=by
 have o1:=Zde J F hm (neg:=false)
 have s1:=ZdX J F ha
 have c1:=Zba J F ha
 obtain ⟨z1,k1,v1⟩:=ZbS J F ha
 have s2:=ZdX J F hb
 have c2:=Zba J F hb
 obtain ⟨z2,k2,v2⟩:=ZbS J F hb
 refine ⟨z1,z2,?_⟩
 rw [Zac G T J.U.soft_open]
 unfold ptC
 generalize F.cls a = ca' at *
 generalize F.ng a = na' at *
 generalize F.ex a = xa' at *
 generalize F.fc a = ya' at *
 generalize F.vl a = va' at *
 generalize F.cls b = cb' at *
 generalize F.ng b = nb' at *
 generalize F.ex b = xb' at *
 generalize F.fc b = yb' at *
 generalize F.vl b = vb' at *
 simp only [fldA,DyA,A3,List.cons_append,List.nil_append] at *
 repeat' (first|simp (maxSteps:=9^7) only [seval,exC,ZhU,ZjO,o1,s1,c1,v1,s2,c2,v2,ZCh,ZgQ,iw20,iw21,rp_0,rp_1,ap_0,ap_1,wr_1,wr1,wr_2,wr2,ZgD,ap_x,List.set_cons_zero,List.set_cons_succ,List.cons_append,List.nil_append ]|simp (maxSteps:=9^7) (disch:=first|with_reducible assumption|omega) only [dxB,Zwg]|(simp only [kdB];split)|(simp only [kvB];split))
end Go.Cv
namespace Go.Cv
variable {G : Nat→Option (List AV)} {T : Tbl} {g : Nat}
theorem Zrm (e : Env) (h : Heap) : evL G T ZhT e h = kS G T (evL G T Zdt (keepE [0,7,8,9] e) h) ZhT:=Zae G T rfl e h
section
variable (a1 a2 a3 a4 a5 b1 b2 b3 b4 b5 c1 c2 c3 c4 c5 : AV) (k : IntKind)
theorem ZoK : iaddrV 5 (.imm 2 [a1,a2,a3,a4,a5,b1,b2,b3,b4,b5]) (.int k 0) = some (.iptr [a1,a2,a3,a4,a5,b1,b2,b3,b4,b5] 0):=rfl
theorem ZoL : iaddrV 5 (.imm 2 [a1,a2,a3,a4,a5,b1,b2,b3,b4,b5]) (.int k 1) = some (.iptr [a1,a2,a3,a4,a5,b1,b2,b3,b4,b5] 5):=rfl
theorem r5_0 (h : Mem) (l : List AV) : rdAt G h 5 (.iptr (a1 :: a2 :: a3 :: a4 :: a5 :: l) 0) = some [a1,a2,a3,a4,a5]:=by simp [rdAt]
theorem r5_5 (h : Mem) (l : List AV) : rdAt G h 5 (.iptr (a1 :: a2 :: a3 :: a4 :: a5 :: b1 :: b2 :: b3 :: b4 :: b5 :: l) 5) = some [b1,b2,b3,b4,b5]:=by simp [rdAt]
end
theorem ZqM (J : Al G T g) {k c c' : Int} {n s n' s' z z' : Bool} {l l' : List Nat} {e e' : Int} :
  run G T 178 [.int .u8 k,.imm 2 [.int .u8 c,.bool n,.bool s,D z l,.int .i64 e,.int .u8 c',.bool n',.bool s',D z' l',.int .i64 e']] = some (.bool (decide (c = k∨c' = k))):=by
 rw [Zac G T J.U.soft_has]
 by_cases h1 : c = k
 ·rw [decide_eq_true (Or.inl h1)]
  repeat' (first|simp (maxSteps:=9^7) only [seval,exC,Zfv,Zrm,Zdt,ZoK,ZoL,r5_0,r5_5,wr_1,wr1,wr_2,wr2,h1]|simp (maxSteps:=9^7) (disch:=first|with_reducible assumption|omega) only [dxB]|(simp only [kdB];split)|(simp only [kvB];split))
 ·by_cases h2 : c' = k
  ·rw [decide_eq_true (Or.inr h2)]
   repeat' (first|simp (maxSteps:=9^7) only [seval,exC,Zfv,Zrm,Zdt,ZoK,ZoL,r5_0,r5_5,wr_1,wr1,wr_2,wr2,h1,h2]|simp (maxSteps:=9^7) (disch:=first|with_reducible assumption|omega) only [dxB]|(simp only [kdB];split)|(simp only [kvB];split))
  ·rw [decide_eq_false (by omega)]
   repeat' (first|simp (maxSteps:=9^7) only [seval,exC,Zfv,Zrm,Zdt,ZoK,ZoL,r5_0,r5_5,wr_1,wr1,wr_2,wr2,h1,h2]|simp (maxSteps:=9^7) (disch:=first|with_reducible assumption|omega) only [dxB]|(simp only [kdB];split)|(simp only [kvB];split))
def deskA (F : Fm) (md : Int) : AV:=.agg [.int .u8 F.u,.int .u8 md]
def ptA (c : Int) (n z : Bool) (d : Dy) : AV:=.agg [.int .u8 c,.bool n,.bool d.n,D z (dl d.m),.int .i64 d.e]
theorem ZpN (J : Al G T g) (F : Fm) {md x : Int} : run G T 179 [deskA F md,.int .u8 x] = some (.tup [.int .u64 (F.nan : Int),.int .u8 x,.int .i64 0]):=by
 rw [Zac G T J.U.soft_desk_none]
 have h1:=ZfX J F
 simp only [deskA] at *
 repeat' (first|simp (maxSteps:=9^7) only [seval,exC,ZcH,h1]|simp (maxSteps:=9^7) (disch:=first|with_reducible assumption|omega) only [dxB]|(simp only [kdB];split)|(simp only [kvB];split))
theorem Zsl (J : Al G T g) (F : Fm) {md x : Int} {n : Bool} : run G T 180 [deskA F md,.bool n,.int .u8 x] = some (.tup [.int .u64 ((F.inf n : Nat) : Int),.int .u8 x,.int .i64 0]):=by
 rw [Zac G T J.U.soft_desk_inf]
 have h1:=Zin J F (n:=n)
 simp only [deskA] at *
 cases n <;> repeat' (first|simp (maxSteps:=9^7) only [seval,exC,Zds,h1]|simp (maxSteps:=9^7) (disch:=first|with_reducible assumption|omega) only [dxB]|(simp only [kdB];split)|(simp only [kvB];split))
theorem ZmC (J : Al G T g) (F : Fm) {md : Int} {n : Bool} : run G T 181 [deskA F md,.bool n] = some (.tup [.int .u64 ((F.sgn n : Nat) : Int),.int .u8 0,.int .i64 0]):=by
 rw [Zac G T J.U.soft_desk_zero]
 have h1:=Zjb J F (n:=n)
 simp only [deskA] at *
 cases n <;> repeat' (first|simp (maxSteps:=9^7) only [seval,exC,ZcI,h1]|simp (maxSteps:=9^7) (disch:=first|with_reducible assumption|omega) only [dxB]|(simp only [kdB];split)|(simp only [kvB];split))
theorem Zsm (J : Al G T g) (F : Fm) {md : Int} (hm : 1≤md∧md≤5) {z : Bool} {d : Dy} (hz : Nz d) (hb : Bd d 131072) :
  run G T 183 [deskA F md,DyA z d] = some (.tup [.int .u64 ((sumW F md d).1 : Int),.int .u8 ((sumW F md d).2 : Int),.int .i64 0]):=by
 rw [Zac G T J.U.soft_desk_sum]
 have hmd:=ZaQ hz hb
 have s1:=Zck J (n:=d.n) (z:=z) (Zas d.m) (e:=d.e)
 rw [Zfp hmd] at s1
 unfold sumW
 by_cases h0 : d.m = 0
 ·rw [if_pos h0] at s1 ⊢
  have h1:=ZmC J F (md:=md) (n:=decide (md = 5))
  simp only [deskA,DyA,A3] at *
  repeat' (first|simp (maxSteps:=9^7) only [seval,exC,Zcj,s1,h1]|simp (maxSteps:=9^7) (disch:=first|with_reducible assumption|omega) only [dxB]|(simp only [kdB];split)|(simp only [kvB];split))
  all_goals try rfl
 ·rw [if_neg h0] at s1 ⊢
  have h1:=Zik J F hm (z:=z) (d:=d) hmd
  have c1 : ¬ (if d.n = true then (-1 : Int) else 1) = 0:=by split <;> decide
  generalize (if d.n = true then (-1 : Int) else 1) = sg at *
  generalize rndW F md d = S at *
  simp only [deskA,DyA,A3] at *
  repeat' (first|simp (maxSteps:=9^7) only [seval,exC,Zcj,s1,c1,h1]|simp (maxSteps:=9^7) (disch:=first|with_reducible assumption|omega) only [dxB]|(simp only [kdB];split)|(simp only [kvB];split))
  all_goals try rfl
set_option maxHeartbeats 8000000 in
theorem ZxW (J : Al G T g) (F : Fm) {md : Int} (hm : 1≤md∧md≤5) {c c' : Int} {n n' z z' : Bool} {d d' : Dy}
  (hz : Nz d) (hz' : Nz d') (hb : Bd d 16384) (hb' : Bd d' 16384) :
  run G T 177 [deskA F md,ptA c n z d,ptA c' n' z' d'] = some (.tup [.int .u64 ((addP F md c n d c' n' d').1 : Int),.int .u8 ((addP F md c n d c' n' d').2 : Int),.int .i64 0]):=by
 rw [Zac G T J.U.soft_desk_add]
 have h5:=ZqM J (k:=5) (c:=c) (c':=c') (n:=n) (s:=d.n) (n':=n') (s':=d'.n) (z:=z) (z':=z') (l:=dl d.m) (l':=dl d'.m) (e:=d.e) (e':=d'.e)
 have nn:=fun x => ZpN J F (md:=md) (x:=x)
 have inf:=fun m => Zsl J F (md:=md) (x:=0) (n:=m)
 have ze:=fun m => ZmC J F (md:=md) (n:=m)
 unfold addP
 by_cases a5 : c = 5∨c' = 5
 ·rw [decide_eq_true a5] at h5
  rw [if_pos a5]
  simp only [deskA,ptA] at *
  repeat' (first|simp (maxSteps:=9^7) only [seval,exC,Zao,ZjO,h5,nn]|simp (maxSteps:=9^7) (disch:=first|with_reducible assumption|omega) only [dxB]|(simp only [kdB];split)|(simp only [kvB];split))
  all_goals try rfl
 ·rw [decide_eq_false a5] at h5
  rw [if_neg a5]
  by_cases a4 : c = 4
  ·by_cases b4 : c' = 4
   ·by_cases hn : n = n'
    ·rw [if_neg (show ¬ (c = 4∧c' = 4∧n≠n') from fun h => h.2.2 hn),if_pos a4]
     have i1:=inf n'
     subst a4 b4 hn
     simp only [deskA,ptA] at *
     cases n <;> (
      repeat' (first|simp (maxSteps:=9^7) only [seval,exC,Zao,ZjO,h5,i1]|simp (maxSteps:=9^7) (disch:=first|with_reducible assumption|omega) only [dxB]|(simp only [kdB];split)|(simp only [kvB];split))
      all_goals try rfl)
    ·rw [if_pos (show c = 4∧c' = 4∧n≠n' from ⟨a4,b4,hn⟩)]
     subst a4 b4
     simp only [deskA,ptA] at *
     cases n <;> cases n' <;> first | exact absurd rfl hn | (
      repeat' (first|simp (maxSteps:=9^7) only [seval,exC,Zao,ZjO,h5,nn]|simp (maxSteps:=9^7) (disch:=first|with_reducible assumption|omega) only [dxB]|(simp only [kdB];split)|(simp only [kvB];split))
      all_goals try rfl)
   ·rw [if_neg (show ¬ (c = 4∧c' = 4∧n≠n') by omega),if_pos a4]
    have i1:=inf n
    subst a4
    simp only [deskA,ptA] at *
    cases n <;> (
     repeat' (first|simp (maxSteps:=9^7) only [seval,exC,Zao,ZjO,h5,b4,i1]|simp (maxSteps:=9^7) (disch:=first|with_reducible assumption|omega) only [dxB]|(simp only [kdB];split)|(simp only [kvB];split))
     all_goals try rfl)
  ·rw [if_neg (show ¬ (c = 4∧c' = 4∧n≠n') by omega),if_neg a4]
   by_cases b4 : c' = 4
   ·rw [if_pos b4]
    have i1:=inf n'
    subst b4
    simp only [deskA,ptA] at *
    cases n' <;> (
     repeat' (first|simp (maxSteps:=9^7) only [seval,exC,Zao,ZjO,h5,a4,i1]|simp (maxSteps:=9^7) (disch:=first|with_reducible assumption|omega) only [dxB]|(simp only [kdB];split)|(simp only [kvB];split))
     all_goals try rfl)
   ·rw [if_neg b4]
    by_cases h1 : c = 1∧c' = 1∧n = n'
    ·rw [if_pos h1]
     have i1:=ze n
     obtain ⟨k1,k2,k3⟩:=h1
     subst k1 k2 k3
     simp only [deskA,ptA] at *
     cases n <;> (
      repeat' (first|simp (maxSteps:=9^7) only [seval,exC,Zao,ZjO,h5,i1]|simp (maxSteps:=9^7) (disch:=first|with_reducible assumption|omega) only [dxB]|(simp only [kdB];split)|(simp only [kvB];split))
      all_goals try rfl)
    ·rw [if_neg h1]
     obtain ⟨z3,s1⟩:=Zkw J (z:=z) (y:=z') hb hb' (ZaQ hz (hb.mono (by decide))) (ZaQ hz' (hb'.mono (by decide)))
     have s2:=Zsm J F hm (z:=z3) (ZcT hz hz') ((ZlI hb hb').mono (by decide))
     generalize sumW F md (addD d d') = S at *
     generalize addD d d' = s at *
     have hk : ¬ c = 1∨(c = 1∧¬ c' = 1)∨(c = 1∧c' = 1∧n≠n'):=by
      by_cases q1 : c = 1
      ·by_cases q2 : c' = 1
       ·right; right; exact ⟨q1,q2,fun h => h1 ⟨q1,q2,h⟩⟩
       ·right; left; exact ⟨q1,q2⟩
      ·left; exact q1
     clear h1 hb hb' hz hz' inf ze nn
     simp only [deskA,ptA,DyA,A3] at *
     rcases hk with k1 | ⟨k1,k2⟩ | ⟨k1,k2,k3⟩
     ·repeat' (first|simp (maxSteps:=9^7) only [seval,exC,Zao,ZjO,h5,a4,b4,k1,s1,s2]|simp (maxSteps:=9^7) (disch:=first|with_reducible assumption|omega) only [dxB]|(simp only [kdB];split)|(simp only [kvB];split))
      all_goals try rfl
     ·subst k1
      repeat' (first|simp (maxSteps:=9^7) only [seval,exC,Zao,ZjO,h5,a4,b4,k2,s1,s2]|simp (maxSteps:=9^7) (disch:=first|with_reducible assumption|omega) only [dxB]|(simp only [kdB];split)|(simp only [kvB];split))
      all_goals try rfl
     ·subst k1 k2
      cases n <;> cases n' <;> first | exact absurd rfl k3 | (
       repeat' (first|simp (maxSteps:=9^7) only [seval,exC,Zao,ZjO,h5,s1,s2]|simp (maxSteps:=9^7) (disch:=first|with_reducible assumption|omega) only [dxB]|(simp only [kdB];split)|(simp only [kvB];split))
       all_goals try rfl)
end Go.Cv
namespace Go.Cv
variable {G : Nat→Option (List AV)} {T : Tbl} {g : Nat}
theorem Zkl (cs : List AV) (o b o' : Nat) : apart (.iptr cs o) (.ptr b o') = true:=rfl
theorem ZkY (J : Al G T g) (F : Fm) {md : Int} (hm : 1≤md∧md≤5) {a b : Nat} (ha : a < 2 * F.sg) (hb : b < 2 * F.sg) :
  run G T 164 [.int .u8 F.u,.int .u8 md,.int .u64 (a : Int),.int .u64 (b : Int)] = some (.tup [.int .u64 ((addW F md a b).1 : Int),.int .u8 ((addW F md a b).2 : Int),.int .i64 0]):=by
 rw [Zac G T J.U.ZkY]
 obtain ⟨z1,z2,o1⟩:=Zoc J F hm ha hb
 have s1:=ZxW J F hm (c:=F.cls a) (n:=F.ng a) (z:=z1) (d:=F.vl a) (c':=F.cls b) (n':=F.ng b) (z':=z2) (d':=F.vl b) (ZbX F a) (ZbX F b) ((ZgU F a).mono (by decide)) ((ZgU F b).mono (by decide))
 unfold addW
 generalize addP F md (F.cls a) (F.ng a) (F.vl a) (F.cls b) (F.ng b) (F.vl b) = S at *
 unfold ptC at o1
 generalize F.cls a = ca at *
 generalize F.ng a = na at *
 generalize F.vl a = va at *
 generalize F.cls b = cb at *
 generalize F.ng b = nb at *
 generalize F.vl b = vb at *
 simp only [deskA,ptA,List.cons_append,List.nil_append] at *
 repeat' (first|simp (maxSteps:=9^7) only [seval,exC,Zjl,o1,ZoK,ZoL,r5_0,r5_5,s1]|simp (maxSteps:=9^7) (disch:=first|with_reducible assumption|omega) only [dxB]|(simp only [kdB];split)|(simp only [kvB];split))
 all_goals try rfl
set_option maxHeartbeats 8000000 in
theorem Zpq (J : Al G T g) (F : Fm) {md : Int} (hm : 1≤md∧md≤5) {a b : Nat} (ha : a < 2 * F.sg) (hb : b < 2 * F.sg) :
  run G T 165 [.int .u8 F.u,.int .u8 md,.int .u64 (a : Int),.int .u64 (b : Int)] = some (.tup [.int .u64 ((mulW2 F md a b).1 : Int),.int .u8 ((mulW2 F md a b).2 : Int),.int .i64 0]):=by
 rw [Zac G T J.U.Zpq]
 obtain ⟨z1,z2,o1⟩:=Zoc J F hm ha hb
 have hk:=fun k => ZqM J (k:=k) (c:=F.cls a) (c':=F.cls b) (n:=F.ng a) (s:=(F.vl a).n) (n':=F.ng b) (s':=(F.vl b).n) (z:=z1) (z':=z2) (l:=dl (F.vl a).m) (l':=dl (F.vl b).m) (e:=(F.vl a).e) (e':=(F.vl b).e)
 have h5:=hk 5
 have h4:=hk 4
 have h1:=hk 1
 have nn:=fun x => ZpN J F (md:=md) (x:=x)
 have inf:=fun x => Zsl J F (md:=md) (x:=x) (n:=F.ng a != F.ng b)
 have ze:=ZmC J F (md:=md) (n:=F.ng a != F.ng b)
 have b1:=ZgU F a
 have b2:=ZgU F b
 obtain ⟨z3,m1⟩:=Zjn J (z:=z1) (y:=z2) (b1.mono (by decide)) (b2.mono (by decide)) (ZaQ (ZbX F a) (b1.mono (by decide))) (ZaQ (ZbX F b) (b2.mono (by decide)))
 have s1:=Zsm J F hm (z:=z3) (ZbB (F.vl a) (F.vl b)) ((ZfY b1 b2).mono (by decide))
 unfold mulW2 mulP
 unfold ptC at o1
 generalize sumW F md (mulD (F.vl a) (F.vl b)) = S at *
 generalize mulD (F.vl a) (F.vl b) = s at *
 clear b1 b2 hk
 generalize F.cls a = ca at *
 generalize F.ng a = na at *
 generalize F.vl a = va at *
 generalize F.cls b = cb at *
 generalize F.ng b = nb at *
 generalize F.vl b = vb at *
 simp only [deskA,DyA,A3,List.cons_append,List.nil_append] at *
 have hne : (na != nb) = !decide (na = nb):=by cases na <;> cases nb <;> rfl
 rw [hne] at inf ze ⊢
 by_cases q5 : ca = 5∨cb = 5
 ·rw [decide_eq_true q5] at h5
  rw [if_pos q5]
  repeat' (first|simp (maxSteps:=9^7) only [seval,exC,ZcZ,Zkl,o1,ZoK,ZoL,r5_0,r5_5,h5,nn]|simp (maxSteps:=9^7) (disch:=first|with_reducible assumption|omega) only [dxB]|(simp only [kdB];split)|(simp only [kvB];split))
  all_goals try rfl
 ·rw [decide_eq_false q5] at h5
  rw [if_neg q5]
  by_cases q4 : ca = 4∨cb = 4
  ·rw [decide_eq_true q4] at h4
   by_cases q1 : ca = 1∨cb = 1
   ·rw [decide_eq_true q1] at h1
    rw [if_pos (show (ca = 4∨cb = 4)∧(ca = 1∨cb = 1) from ⟨q4,q1⟩)]
    repeat' (first|simp (maxSteps:=9^7) only [seval,exC,ZcZ,Zkl,o1,ZoK,ZoL,r5_0,r5_5,h5,h4,h1,nn]|simp (maxSteps:=9^7) (disch:=first|with_reducible assumption|omega) only [dxB]|(simp only [kdB];split)|(simp only [kvB];split))
    all_goals try rfl
   ·rw [decide_eq_false q1] at h1
    rw [if_neg (show ¬ ((ca = 4∨cb = 4)∧(ca = 1∨cb = 1)) from fun h => q1 h.2),if_pos q4]
    repeat' (first|simp (maxSteps:=9^7) only [seval,exC,ZcZ,Zkl,o1,ZoK,ZoL,r5_0,r5_5,h5,h4,h1,inf]|simp (maxSteps:=9^7) (disch:=first|with_reducible assumption|omega) only [dxB]|(simp only [kdB];split)|(simp only [kvB];split))
    all_goals try rfl
  ·rw [decide_eq_false q4] at h4
   rw [if_neg (show ¬ ((ca = 4∨cb = 4)∧(ca = 1∨cb = 1)) from fun h => q4 h.1),if_neg q4]
   by_cases q1 : ca = 1∨cb = 1
   ·rw [decide_eq_true q1] at h1
    rw [if_pos q1]
    repeat' (first|simp (maxSteps:=9^7) only [seval,exC,ZcZ,Zkl,o1,ZoK,ZoL,r5_0,r5_5,h5,h4,h1,ze]|simp (maxSteps:=9^7) (disch:=first|with_reducible assumption|omega) only [dxB]|(simp only [kdB];split)|(simp only [kvB];split))
    all_goals try rfl
   ·rw [decide_eq_false q1] at h1
    rw [if_neg q1]
    repeat' (first|simp (maxSteps:=9^7) only [seval,exC,ZcZ,Zkl,o1,ZoK,ZoL,r5_0,r5_5,h5,h4,h1,m1,s1]|simp (maxSteps:=9^7) (disch:=first|with_reducible assumption|omega) only [dxB]|(simp only [kdB];split)|(simp only [kvB];split))
    all_goals try rfl
end Go.Cv
namespace Go.Cv
variable {G : Nat→Option (List AV)} {T : Tbl} {g : Nat}
section
variable {f md a b c e : Int}
end
end Go.Cv
namespace Go.Cv
variable {G : Nat→Option (List AV)} {T : Tbl} {g : Nat}
def zA (a b : Nat) : AV:=.agg [.int .u64 (a : Int),.int .u64 (b : Int)]
def zcl (c c' : Int) : Int:=if c = 4∨c' = 4 then 3 else if c = 5∨c' = 5 then 4 else if c = 1∧c' = 1 then 1 else 2
def sqD (F : Fm) (a b : Nat) : Dy:=addD (mulD (F.vl a) (F.vl a)) (mulD (F.vl b) (F.vl b))
theorem ZjP (J : Al G T g) (F : Fm) {w : Nat} (hw : w < 18446744073709551616) (hb : ¬ w < 2 * F.sg) : run G T 193 [.int .u8 F.u,.int .u64 (w : Int)] = some (.tup [.int .u8 0,.int .i64 6]):=by
 rw [Zac G T J.U.Zba]
 have h1:=Zfz J F hw
 rw [if_neg hb] at h1
 simp only [shA] at *
 repeat' (first|simp (maxSteps:=9^7) only [seval,exC,ZeD,h1]|simp (maxSteps:=9^7) (disch:=first|with_reducible assumption|omega) only [dxB]|(simp only [kdB];split)|(simp only [kvB];split))
theorem Zdc (J : Al G T g) (F : Fm) {a b : Nat} (ha : a < 2 * F.sg) (hb : b < 2 * F.sg) : run G T 189 [.int .u8 F.u,zA a b] = some (.tup [.int .u8 (zcl (F.cls a) (F.cls b)),.int .i64 0]):=by
 rw [Zac G T J.U.Zdc]
 have h1:=Zba J F ha
 have h2:=Zba J F hb
 unfold zcl
 generalize F.cls a = c at *
 generalize F.cls b = d at *
 simp only [zA] at *
 by_cases q4 : c = 4∨d = 4
 ·rw [if_pos q4]
  by_cases k : c = 4
  ·repeat' (first|simp (maxSteps:=9^7) only [seval,exC,ZaJ,h1,h2,k]|simp (maxSteps:=9^7) (disch:=first|with_reducible assumption|omega) only [dxB]|(simp only [kdB];split)|(simp only [kvB];split))
  ·have k2 : d = 4:=by omega
   repeat' (first|simp (maxSteps:=9^7) only [seval,exC,ZaJ,h1,h2,k,k2]|simp (maxSteps:=9^7) (disch:=first|with_reducible assumption|omega) only [dxB]|(simp only [kdB];split)|(simp only [kvB];split))
 ·rw [if_neg q4]
  have k1 : ¬ c = 4:=by omega
  have k2 : ¬ d = 4:=by omega
  by_cases q5 : c = 5∨d = 5
  ·rw [if_pos q5]
   by_cases k : c = 5
   ·subst k; repeat' (first|simp (maxSteps:=9^7) only [seval,exC,ZaJ,h1,h2,k2]|simp (maxSteps:=9^7) (disch:=first|with_reducible assumption|omega) only [dxB]|(simp only [kdB];split)|(simp only [kvB];split))
   ·have k3 : d = 5:=by omega
    subst k3; repeat' (first|simp (maxSteps:=9^7) only [seval,exC,ZaJ,h1,h2,k,k1]|simp (maxSteps:=9^7) (disch:=first|with_reducible assumption|omega) only [dxB]|(simp only [kdB];split)|(simp only [kvB];split))
  ·rw [if_neg q5]
   have k3 : ¬ c = 5:=by omega
   have k4 : ¬ d = 5:=by omega
   by_cases q1 : c = 1∧d = 1
   ·rw [if_pos q1]
    obtain ⟨rfl,rfl⟩:=q1
    repeat' (first|simp (maxSteps:=9^7) only [seval,exC,ZaJ,h1,h2]|simp (maxSteps:=9^7) (disch:=first|with_reducible assumption|omega) only [dxB]|(simp only [kdB];split)|(simp only [kvB];split))
   ·rw [if_neg q1]
    by_cases k5 : c = 1
    ·have k6 : ¬ d = 1:=fun h => q1 ⟨k5,h⟩
     subst k5; repeat' (first|simp (maxSteps:=9^7) only [seval,exC,ZaJ,h1,h2,k2,k4,k6]|simp (maxSteps:=9^7) (disch:=first|with_reducible assumption|omega) only [dxB]|(simp only [kdB];split)|(simp only [kvB];split))
    ·repeat' (first|simp (maxSteps:=9^7) only [seval,exC,ZaJ,h1,h2,k1,k2,k3,k4,k5]|simp (maxSteps:=9^7) (disch:=first|with_reducible assumption|omega) only [dxB]|(simp only [kdB];split)|(simp only [kvB];split))
theorem ZjK (J : Al G T g) (F : Fm) {a b : Nat} (ha : a < 18446744073709551616) (hb : b < 18446744073709551616) (h : ¬ (a < 2 * F.sg∧b < 2 * F.sg)) : run G T 189 [.int .u8 F.u,zA a b] = some (.tup [.int .u8 0,.int .i64 6]):=by
 rw [Zac G T J.U.Zdc]
 by_cases k1 : a < 2 * F.sg
 ·have h1:=Zba J F k1
  have h2:=ZjP J F hb (fun q => h ⟨k1,q⟩)
  generalize F.cls a = c at *
  simp only [zA] at *
  repeat' (first|simp (maxSteps:=9^7) only [seval,exC,ZaJ,h1,h2]|simp (maxSteps:=9^7) (disch:=first|with_reducible assumption|omega) only [dxB]|(simp only [kdB];split)|(simp only [kvB];split))
 ·have h1:=ZjP J F ha k1
  simp only [zA] at *
  repeat' (first|simp (maxSteps:=9^7) only [seval,exC,ZaJ,h1]|simp (maxSteps:=9^7) (disch:=first|with_reducible assumption|omega) only [dxB]|(simp only [kdB];split)|(simp only [kvB];split))
theorem ZAT (F : Fm) (a b : Nat) : Bd (sqD F a b) 65537:=(ZlI (ZfY (ZgU F a) (ZgU F a)) (ZfY (ZgU F b) (ZgU F b))).mono (by decide)
theorem ZpE (F : Fm) (a b : Nat) : Nz (sqD F a b):=ZcT (ZbB _ _) (ZbB _ _)
theorem Zqj (d : Dy) : (mulD d d).n = false:=by
 unfold mulD
 rw [show (d.n != d.n) = false by cases d.n <;> rfl]
 unfold mkD; split <;> rfl
theorem Zod (F : Fm) (a b : Nat) : (sqD F a b).n = false:=by
 unfold sqD
 have h1:=Zqj (F.vl a)
 have h2:=Zqj (F.vl b)
 generalize mulD (F.vl a) (F.vl a) = x at *
 generalize mulD (F.vl b) (F.vl b) = y at *
 unfold addD
 rw [h1,h2]
 repeat' split
 all_goals first | assumption | (unfold mkD; split <;> rfl)
theorem ZgT (J : Al G T g) (F : Fm) {a b : Nat} (ha : a < 2 * F.sg) (hb : b < 2 * F.sg) :
  ∃ z,run G T 191 [.int .u8 F.u,zA a b] = some (DyA z (sqD F a b)):=by
 obtain ⟨z1,k1,v1⟩:=ZbS J F ha
 obtain ⟨z2,k2,v2⟩:=ZbS J F hb
 have b1:=ZgU F a
 have b2:=ZgU F b
 have y1:=ZaQ (ZbX F a) (b1.mono (by decide))
 have y2:=ZaQ (ZbX F b) (b2.mono (by decide))
 obtain ⟨z3,m1⟩:=Zjn J (z:=z1) (y:=z1) (b1.mono (by decide)) (b1.mono (by decide)) y1 y1
 obtain ⟨z4,m2⟩:=Zjn J (z:=z2) (y:=z2) (b2.mono (by decide)) (b2.mono (by decide)) y2 y2
 have b3:=ZfY b1 b1
 have b4:=ZfY b2 b2
 obtain ⟨z5,s1⟩:=Zkw J (z:=z3) (y:=z4) b3 b4 (ZaQ (ZbB _ _) (b3.mono (by decide))) (ZaQ (ZbB _ _) (b4.mono (by decide)))
 refine ⟨z5,?_⟩
 rw [Zac G T J.U.ZgT]
 unfold sqD
 generalize addD (mulD (F.vl a) (F.vl a)) (mulD (F.vl b) (F.vl b)) = d at *
 generalize mulD (F.vl a) (F.vl a) = p at *
 generalize mulD (F.vl b) (F.vl b) = q at *
 generalize F.vl a = va at *
 generalize F.vl b = vb at *
 clear b1 b2 b3 b4 y1 y2
 simp only [zA,DyA,A3] at *
 repeat' (first|simp (maxSteps:=9^7) only [seval,exC,ZcG,v1,v2,m1,m2,s1]|simp (maxSteps:=9^7) (disch:=first|with_reducible assumption|omega) only [dxB]|(simp only [kdB];split)|(simp only [kvB];split))
def toldW (F : Fm) (c : Int) (X : Nat × Nat) : Nat × Nat:=if c = 3 then (F.inf false,0) else if c = 4 then (F.nan,0) else X
theorem ZiN (J : Al G T g) (F : Fm) {md : Int} (hm : 1≤md∧md≤5) {a b : Nat} (ha : a < 2 * F.sg) (hb : b < 2 * F.sg) {k : Nat} {X : Nat × Nat}
  (hk : ∀ z,run G T k [.int .u8 F.u,.int .u8 md,DyA z (sqD F a b)] = some (.tup [.int .u64 (X.1 : Int),.int .u8 (X.2 : Int),.int .i64 0])) :
  run G T 186 [.int .u8 F.u,.int .u8 md,zA a b,.fn k []] = some (.tup [.int .u64 ((toldW F (zcl (F.cls a) (F.cls b)) X).1 : Int),.int .u8 ((toldW F (zcl (F.cls a) (F.cls b)) X).2 : Int),.int .i64 0]):=by
 rw [Zac G T J.U.ZiN]
 have o1:=Zde J F hm (neg:=false)
 have c1:=Zdc J F ha hb
 have i1:=Zin J F (n:=false)
 have n1:=ZfX J F
 obtain ⟨z,s1⟩:=ZgT J F ha hb
 have hk:=hk z
 unfold toldW
 generalize zcl (F.cls a) (F.cls b) = c at *
 generalize sqD F a b = d at *
 simp only [zA,DyA,A3] at *
 by_cases k3 : c = 3
 ·rw [if_pos k3]
  repeat' (first|simp (maxSteps:=9^7) only [seval,exC,ZbN,o1,c1,k3,i1]|simp (maxSteps:=9^7) (disch:=first|with_reducible assumption|omega) only [dxB]|(simp only [kdB];split)|(simp only [kvB];split))
  all_goals rfl
 ·rw [if_neg k3]
  by_cases k4 : c = 4
  ·rw [if_pos k4]
   subst k4
   repeat' (first|simp (maxSteps:=9^7) only [seval,exC,ZbN,o1,c1,n1]|simp (maxSteps:=9^7) (disch:=first|with_reducible assumption|omega) only [dxB]|(simp only [kdB];split)|(simp only [kvB];split))
   all_goals rfl
  ·rw [if_neg k4]
   repeat' (first|simp (maxSteps:=9^7) only [seval,exC,ZbN,o1,c1,k3,k4,s1,hk]|simp (maxSteps:=9^7) (disch:=first|with_reducible assumption|omega) only [dxB]|(simp only [kdB];split)|(simp only [kvB];split))
   all_goals try rfl
noncomputable def rtW (F : Fm) (md : Int) (d : Dy) : Nat × Nat:=if d.m = 0 then (0,0) else rootW F md d
noncomputable def absZ (F : Fm) (md : Int) (a b : Nat) : Nat × Nat:=toldW F (zcl (F.cls a) (F.cls b)) (rtW F md (sqD F a b))
theorem ZjX (J : Al G T g) (F : Fm) {md : Int} (hm : 1≤md∧md≤5) {a b : Nat} (ha : a < 2 * F.sg) (hb : b < 2 * F.sg) :
  run G T 169 [.int .u8 F.u,.int .u8 md,zA a b] = some (.tup [.int .u64 ((absZ F md a b).1 : Int),.int .u8 ((absZ F md a b).2 : Int),.int .i64 0]):=by
 rw [Zac G T J.U.ZjX]
 have hd:=ZaQ (ZpE F a b) ((ZAT F a b).mono (show 65537≤131072 by decide))
 have h1:=ZiN J F hm ha hb (k:=18) (X:=rtW F md (sqD F a b)) (fun z => by
  unfold rtW
  by_cases h0 : (sqD F a b).m = 0
  ·rw [if_pos h0]; exact Zns J F hm hd h0
  ·rw [if_neg h0]; exact ZjD J F hm hd h0 (Zod F a b))
 unfold absZ
 generalize toldW F (zcl (F.cls a) (F.cls b)) (rtW F md (sqD F a b)) = S at *
 simp only [zA] at *
 repeat' (first|simp (maxSteps:=9^7) only [seval,exC,ZeU,h1]|simp (maxSteps:=9^7) (disch:=first|with_reducible assumption|omega) only [dxB]|(simp only [kdB];split)|(simp only [kvB];split))
 all_goals try rfl
end Go.Cv
namespace Go.Cv
variable {G : Nat→Option (List AV)} {T : Tbl} {g : Nat}
theorem ZgC (J : Al G T g) (F : Fm) {a b : Nat} (ha : a < 2 * F.sg) (hb : b < 2 * F.sg) (fa : F.fin a) (fb : F.fin b) :
  ∃ z,run G T 236 [.int .u8 F.u,zA a b] = some (DyA z (sqD F a b)):=by
 obtain ⟨z1,v1⟩:=ZfU J F (Zkf ha) fa
 obtain ⟨z2,v2⟩:=ZfU J F (Zkf hb) fb
 rw [← ZbA fa] at v1
 rw [← ZbA fb] at v2
 obtain ⟨p1,p2,p3⟩:=ZgU F a
 obtain ⟨q1,q2,q3⟩:=ZgU F b
 have hl1:=Zaa (F.vl a).m
 have hl2:=Zaa (F.vl b).m
 obtain ⟨z3,m1⟩:=ZiV J (z:=z1) (y:=z1) (a:=F.vl a) (b:=F.vl a) (by omega) (by omega) (by omega) (by omega)
 obtain ⟨z4,m2⟩:=ZiV J (z:=z2) (y:=z2) (a:=F.vl b) (b:=F.vl b) (by omega) (by omega) (by omega) (by omega)
 obtain ⟨z5,s1⟩:=ZfT J (z:=z3) (y:=z4) (a:=mulD (F.vl a) (F.vl a)) (b:=mulD (F.vl b) (F.vl b)) ((ZfY (ZgU F a) (ZgU F a)).mono (by decide)) ((ZfY (ZgU F b) (ZgU F b)).mono (by decide))
 refine ⟨z5,?_⟩
 rw [show mkD ((F.vl a).n != (F.vl a).n) ((F.vl a).m * (F.vl a).m) ((F.vl a).e + (F.vl a).e) = mulD (F.vl a) (F.vl a) from rfl] at m1
 rw [show mkD ((F.vl b).n != (F.vl b).n) ((F.vl b).m * (F.vl b).m) ((F.vl b).e + (F.vl b).e) = mulD (F.vl b) (F.vl b) from rfl] at m2
 rw [Zac G T J.H.ZgC]
 unfold sqD
 generalize addD (mulD (F.vl a) (F.vl a)) (mulD (F.vl b) (F.vl b)) = d at *
 generalize mulD (F.vl a) (F.vl a) = p at *
 generalize mulD (F.vl b) (F.vl b) = q at *
 generalize F.vl a = va at *
 generalize F.vl b = vb at *
 simp only [zA,DyA,A3] at *
 repeat' (first|simp (maxSteps:=9^7) only [seval,exC,Zei,v1,v2,m1,m2,s1]|simp (maxSteps:=9^7) (disch:=first|with_reducible assumption|omega) only [dxB]|(simp only [kdB];split)|(simp only [kvB];split))
theorem ZmO (e : Env) (h : Heap) : evL G T Zcg e h = kS G T (evL G T Zay (keepE [0,1,5] e) h) Zcg:=Zae G T rfl e h
section
variable (x y u v : AV) (k : IntKind)
theorem ZBr : iaddrV 2 (.imm 1 [x,y]) (.int k 0) = some (.iptr [x,y] 0):=rfl
theorem Zyl : iaddrV 2 (.imm 2 [x,y,u,v]) (.int k 0) = some (.iptr [x,y,u,v] 0):=rfl
theorem Zym : iaddrV 2 (.imm 2 [x,y,u,v]) (.int k 1) = some (.iptr [x,y,u,v] 2):=rfl
theorem fa_i (off o : Nat) (cs : List AV) : faddrA off (.iptr cs o) = some (.iptr cs (o + off)):=rfl
end
theorem ZgI (F : CallF) (d : Option Nat) (os : List IOper) (e : Env) (h : Heap) (n : Nat) (zero : List AV) (ps : List (Nat × Nat × IOpd)) : evOps G F (⟨d,.bslice n 2 zero ps,none⟩ :: os) e h =
  kBs G F (fillA (repA n zero) (ps.map fun (o,n,x) => (o,n,opd e x))) (.own h.b.length 0 n 2) d os e h:=Zja G F d os e h n 2 zero ps
theorem ZrC (J : Al G T g) (F : Fm) {a b : Nat} (ha : a < 18446744073709551616) (hb : b < 18446744073709551616) :
  run G T 185 [.int .u8 F.u,.imm 1 [.int .u64 (a : Int),.int .u64 (b : Int)]] = some (.int .i64 (if a < 2 * F.sg∧b < 2 * F.sg then 0 else 6)):=by
 rw [Zac G T J.U.ref10_Good]
 have h1:=ZkR J F
 have h3:=Zfx J F ha
 have h4:=Zfx J F hb
 by_cases k1 : a < 2 * F.sg
 ·rw [if_pos k1] at h3
  by_cases k2 : b < 2 * F.sg
  ·rw [if_pos k2] at h4
   rw [if_pos ⟨k1,k2⟩]
   repeat' (first|simp (maxSteps:=9^7) only [seval,exC,ZbD,h1,ZmO,Zay,ZBr,fa_i,rp_0,rp_1,wr_1,wr1,h3,h4]|simp (maxSteps:=9^7) (disch:=first|with_reducible assumption|omega) only [dxB]|(simp only [kdB];split)|(simp only [kvB];split))
  ·rw [if_neg k2] at h4
   rw [if_neg (fun h => k2 h.2)]
   repeat' (first|simp (maxSteps:=9^7) only [seval,exC,ZbD,h1,ZmO,Zay,ZBr,fa_i,rp_0,rp_1,wr_1,wr1,h3,h4]|simp (maxSteps:=9^7) (disch:=first|with_reducible assumption|omega) only [dxB]|(simp only [kdB];split)|(simp only [kvB];split))
 ·rw [if_neg k1] at h3
  rw [if_neg (fun h => k1 h.1)]
  repeat' (first|simp (maxSteps:=9^7) only [seval,exC,ZbD,h1,ZmO,Zay,ZBr,fa_i,rp_0,rp_1,wr_1,wr1,h3]|simp (maxSteps:=9^7) (disch:=first|with_reducible assumption|omega) only [dxB]|(simp only [kdB];split)|(simp only [kvB];split))
end Go.Cv
namespace Go.Cv
variable {G : Nat→Option (List AV)} {T : Tbl} {g : Nat}
def Fm.min (F : Fm) (w : Nat) : Nat:=if F.cls w = 5 then F.nan else F.flip w
def Sim (F : Fm) (a b : Nat) : Prop:=F.cls a = F.cls b∧mulD (F.vl a) (F.vl a) = mulD (F.vl b) (F.vl b)
theorem Sim.refl (F : Fm) (a : Nat) : Sim F a a:=⟨rfl,rfl⟩
theorem Sim.trans {F : Fm} {a b c : Nat} (h : Sim F a b) (k : Sim F b c) : Sim F a c:=⟨h.1.trans k.1,h.2.trans k.2⟩
theorem neg_mul (d : Dy) : mulD (negD d) (negD d) = mulD d d:=by
 unfold negD
 split
 ·rfl
 ·unfold mulD; simp only; cases d.n <;> rfl
theorem Zid {a b : Dy} (h : a.m = 0∨b.m = 0) : mulD a b = ⟨false,0,0⟩:=by
 unfold mulD
 rcases h with h | h
 ·rw [h,Nat.zero_mul]; rfl
 ·rw [h,Nat.mul_zero]; rfl
theorem fd_3 (b : Bool) (x y : AV) : fieldA false 0 1 (.agg [.bool b,x,y]) = some (.bool b):=rfl
theorem ZCw (F : Fm) (n : Bool) {k : Nat} {u : Int} (hk0 : k≠0) (hk1 : k < 2 ^ (F.fr + 1)) (hu : F.low≤u) (hku : u = F.low∨2 ^ F.fr≤k) (hs : F.enc k u < F.i0) : F.val (F.enc k u + F.sgn n) = mkD n k u:=by
 have hi:=ZdS F
 obtain ⟨e1,e2⟩:=ZeO n (by omega : F.enc k u < F.sg)
 have hp:=Nat.two_pow_pos F.fr
 rw [Nat.pow_succ] at hk1
 unfold Fm.val Fm.ex Fm.fc
 rw [e1,e2]
 rcases Nat.lt_or_ge k (2 ^ F.fr) with h | h
 ·have hul : u = F.low:=by
   rcases hku with q | q
   ·exact q
   ·omega
  have hE : F.enc k u = k:=by unfold Fm.enc; rw [hul,Int.sub_self]; simp
  rw [hE,Nat.div_eq_of_lt h,if_pos rfl,Nat.mod_eq_of_lt h,hul]
 ·have hE : F.enc k u = (k - 2 ^ F.fr) + 2 ^ F.fr * ((u - F.low).toNat + 1):=by
   unfold Fm.enc; rw [Nat.mul_add,Nat.mul_one,Nat.mul_comm]; omega
  have hlt : k - 2 ^ F.fr < 2 ^ F.fr:=by omega
  have hd : F.enc k u / 2 ^ F.fr = (u - F.low).toNat + 1:=by
   rw [hE,Nat.add_mul_div_left _ _ hp,Nat.div_eq_of_lt hlt,Nat.zero_add]
  have hm : F.enc k u % 2 ^ F.fr = k - 2 ^ F.fr:=by
   rw [hE,Nat.add_mul_mod_self_left,Nat.mod_eq_of_lt hlt]
  rw [hd,hm,if_neg (by omega),show 2 ^ F.fr + (k - 2 ^ F.fr) = k by omega]
  congr 1
  omega
theorem Zyg (F : Fm) {d : Dy} (h : F.fits d) (ho : d.m % 2 = 1) : ∃ s,s≠0∧s < F.i0∧F.val (s + F.sgn d.n) = d:=by
 obtain ⟨h0,h1,h2,h3⟩:=h
 have hF:=Zak F
 obtain ⟨u,hu⟩ : ∃ u : Int,u = max (d.e + blen d.m - F.fr - 1) F.low:=⟨_,rfl⟩
 have hbp:=Zbg h0
 have hbk:=Zam h0 (d.e - u).toNat
 have hk0 : d.m * 2 ^ (d.e - u).toNat≠0:=by intro hc; rw [hc,Zai] at hbk; omega
 have hk1 : d.m * 2 ^ (d.e - u).toNat < 2 ^ (F.fr + 1):=Zaf.1 (by omega)
 have hku : u = F.low∨2 ^ F.fr≤d.m * 2 ^ (d.e - u).toNat:=by
  by_cases q : u = F.low
  ·exact Or.inl q
  ·right; exact Zau.1 (by omega)
 have hbig:=ZiH F (n:=d.m * 2 ^ (d.e - u).toNat) (u:=u) (by omega) (by omega) hku
 have hs : F.enc (d.m * 2 ^ (d.e - u).toNat) u < F.i0:=by
  rcases Nat.lt_or_ge (F.enc (d.m * 2 ^ (d.e - u).toNat) u) F.i0 with q | q
  ·exact q
  ·have:=hbig.2 q; omega
 refine ⟨F.enc (d.m * 2 ^ (d.e - u).toNat) u,?_,hs,?_⟩
 ·unfold Fm.enc; omega
 ·rw [ZCw F d.n hk0 hk1 (by omega) hku hs]
  have:=Zjv (n:=d.n) (e:=d.e) ho (d.e - u).toNat
  rw [show d.e - ((d.e - u).toNat : Int) = u by omega] at this
  exact this
theorem Zgz (F : Fm) {w : Nat} (hf : F.fin w) (h0 : (F.val w).m≠0) : F.fits (F.val w):=by
 have hF:=Zak F
 have hwd : F.low + F.fr + F.most - 1 = F.wide:=by cases F <;> decide
 have hy : F.fc w < 2 ^ F.fr:=Nat.mod_lt _ (Nat.two_pow_pos _)
 unfold Fm.fin at hf
 unfold Fm.val at h0 ⊢
 by_cases hx : F.ex w = 0
 ·rw [if_pos hx] at h0 ⊢
  have hk : F.fc w≠0:=by intro hc; rw [hc] at h0; exact h0 rfl
  have hb:=Zaf.2 hy
  exact Zmd hk (by rw [Nat.pow_succ]; omega) (Int.le_refl _) (by omega)
 ·rw [if_neg hx] at h0 ⊢
  have hk : 2 ^ F.fr + F.fc w≠0:=by have:=Nat.two_pow_pos F.fr; omega
  have hb : blen (2 ^ F.fr + F.fc w)≤F.fr + 1:=Zaf.2 (by rw [Nat.pow_succ]; omega)
  exact Zmd hk (by rw [Nat.pow_succ]; omega) (by omega) (by omega)
theorem sterbenz (F : Fm) {x y : Dy} (fx : x.m≠0→F.fits x) (fy : y.m≠0→F.fits y) (hn : x.n = y.n) (h1 : cmpD (absD x) (shD (absD y) 1)≤0) (h2 : cmpD (absD y) (shD (absD x) 1)≤0) (h0 : (subD x y).m≠0) : F.fits (subD x y):=by
 obtain ⟨L,hL⟩ : ∃ L : Int,L = min x.e y.e:=⟨_,rfl⟩
 have lx : LoE x L:=Or.inr (by omega)
 have ly : LoE y L:=Or.inr (by omega)
 have sh : ∀ (d : Dy) (h : LoE d L),iv (shD (absD d) 1) L = 2 * ((d.m * 2 ^ (d.e - L).toNat : Nat) : Int)∧LoE (shD (absD d) 1) L:=fun d h => by
  unfold shD absD
  by_cases q : d.m = 0
  ·simp only [q,if_true]; exact ⟨by simp [iv],Or.inl rfl⟩
  ·simp only [q,if_false]
   have hl:=h.resolve_left q
   refine ⟨?_,Or.inr (by simp only; omega)⟩
   unfold iv
   simp only [Bool.false_eq_true,if_false,Int.one_mul]
   rw [show (d.e + 1 - L).toNat = (d.e - L).toNat + 1 by omega,Nat.pow_succ,← Nat.mul_assoc]; omega
 have la : ∀ (d : Dy) (h : LoE d L),LoE (absD d) L:=fun d h => h
 rw [ZnQ (la x lx) (sh y ly).2,ZzH,(sh y ly).1] at h1
 rw [ZnQ (la y ly) (sh x lx).2,ZzH,(sh x lx).1] at h2
 have hs:=Zbx lx (Zms ly)
 rw [Zqa] at hs
 rw [show addD x (negD y) = subD x y from rfl] at hs
 obtain ⟨hs1,hs2⟩:=hs
 have hle:=hs2.resolve_left h0
 unfold iv at hs1
 rw [hn] at hs1
 generalize hD : (subD x y).m * 2 ^ ((subD x y).e - L).toNat = D at *
 generalize hX : x.m * 2 ^ (x.e - L).toNat = X at *
 generalize hY : y.m * 2 ^ (y.e - L).toNat = Y at *
 have g1 : (X : Int)≤2 * Y:=by
  unfold sgI at h1; split at h1
  ·omega
  ·split at h1 <;> omega
 have g2 : (Y : Int)≤2 * X:=by
  unfold sgI at h2; split at h2
  ·omega
  ·split at h2 <;> omega
 have dX : D≤X∧D≤Y:=by
  generalize (subD x y).n = p at *
  generalize y.n = q at *
  cases p <;> cases q <;> simp only [Bool.false_eq_true,if_false,if_true] at hs1 <;> omega
 have Dp : 0 < D:=by rw [← hD]; exact Nat.mul_pos (Nat.pos_of_ne_zero h0) (Nat.two_pow_pos _)
 have x0 : x.m≠0:=by intro hc; rw [hc,Nat.zero_mul] at hX; omega
 have y0 : y.m≠0:=by intro hc; rw [hc,Nat.zero_mul] at hY; omega
 obtain ⟨_,x1,x2,x3⟩:=fx x0
 obtain ⟨_,y1,y2,y3⟩:=fy y0
 have bD:=Zam h0 ((subD x y).e - L).toNat
 have bX:=Zam x0 (x.e - L).toNat
 have bY:=Zam y0 (y.e - L).toNat
 rw [hD] at bD
 rw [hX] at bX
 rw [hY] at bY
 have m1:=Zax dX.1
 have m2:=Zax dX.2
 exact ⟨h0,by omega,by omega,by omega⟩
theorem ZyN (F : Fm) (md : Int) {a b : Nat} (fa : F.fin a) (fb : F.fin b) :
  (F.cls a = 1∧F.cls b = 1∧subW F md a b = (F.sgn (F.ng a),0))∨subW F md a b = sumW F md (subD (F.vl a) (F.vl b)):=by
 have ra:=Zat.1 fa
 have rb:=Zat.1 fb
 unfold subW addP
 rw [if_neg (show ¬ (F.cls a = 5∨F.cls b = 5) by omega),if_neg (show ¬ (F.cls a = 4∧F.cls b = 4∧F.ng a≠!F.ng b) from fun h => by have:=h.1; omega),if_neg (show ¬ F.cls a = 4 by omega),if_neg (show ¬ F.cls b = 4 by omega)]
 by_cases h : F.cls a = 1∧F.cls b = 1∧F.ng a = !F.ng b
 ·left; rw [if_pos h]; exact ⟨h.1,h.2.1,rfl⟩
 ·right; rw [if_neg h]; rfl
theorem ZCk (F : Fm) {md : Int} {d : Dy} (hz : Nz d) (hf : d.m≠0→F.fits d) : ∃ w : Nat,sumW F md d = (w,0)∧w < 2 * F.sg∧F.fin w∧F.val w = d:=by
 have hi:=ZdS F
 unfold sumW
 by_cases h0 : d.m = 0
 ·rw [if_pos h0]
  refine ⟨F.sgn (decide (md = 5)),rfl,?_,?_,?_⟩
  ·unfold Fm.sgn; split <;> omega
  ·have:=ZcL (F:=F) (s:=0) (decide (md = 5)) hi.2.1
   rwa [Nat.zero_add] at this
  ·have:=Zmp F (decide (md = 5))
   rw [Nat.zero_add] at this
   rw [this,hz.1 h0]
 ·rw [if_neg h0]
  obtain ⟨s,s0,s1,s2⟩:=Zyg F (hf h0) (hz.2 h0)
  have hr:=(Znu F md d.n s1 s0).1
  rw [s2] at hr
  refine ⟨s + F.sgn d.n,hr,?_,ZcL d.n s1,s2⟩
  unfold Fm.sgn; split <;> omega
theorem near (F : Fm) {md : Int} {a b : Nat} (ha : a < 2 * F.sg) (hb : b < 2 * F.sg) (fa : F.fin a) (fb : F.fin b) (hn : (F.vl a).n = (F.vl b).n) (h1 : cmpD (absD (F.vl a)) (shD (absD (F.vl b)) 1)≤0) (h2 : cmpD (absD (F.vl b)) (shD (absD (F.vl a)) 1)≤0) :
  ∃ w : Nat,subW F md a b = (w,0)∧w < 2 * F.sg∧F.fin w∧F.val w = subD (F.vl a) (F.vl b):=by
 have hi:=ZdS F
 rcases ZyN F md fa fb with ⟨k1,k2,h⟩ | h
 ·rw [h]
  refine ⟨F.sgn (F.ng a),rfl,?_,?_,?_⟩
  ·unfold Fm.sgn; split <;> omega
  ·have:=ZcL (F:=F) (s:=0) (F.ng a) hi.2.1
   rwa [Nat.zero_add] at this
  ·have:=Zmp F (F.ng a)
   rw [Nat.zero_add] at this
   rw [this,ZbA fa,ZbA fb,(Zll ha k1).2,(Zll hb k2).2]; rfl
 ·rw [h]
  refine ZCk F (ZcT (ZbX F a) (ZrR (ZbX F b))) (sterbenz F ?_ ?_ hn h1 h2)
  ·intro q; rw [ZbA fa] at q ⊢; exact Zgz F fa q
  ·intro q; rw [ZbA fb] at q ⊢; exact Zgz F fb q
end Go.Cv
