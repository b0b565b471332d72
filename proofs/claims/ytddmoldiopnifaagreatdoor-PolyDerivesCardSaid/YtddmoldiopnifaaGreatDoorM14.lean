/-
 A part of the proof of the statements of this seat (texts that the law's own text leans on): no condition.
-/
import Derived.Test.YtddmoldiopnifaaGreatDoorM13
import Derived.Test.YtddmoldiopnifaaGreatDoorM6
import Derived.Test.YtddmoldiopnifaaGreatDoorM11
set_option linter.unusedVariables false
set_option linter.unusedSimpArgs false
namespace Go.Cv
variable {G : Nat→Option (List AV)} {T : Tbl} {g : Nat}
theorem Zzh {x y a b : Nat} (hx : blen x≤a) (hy : blen y≤b) : blen (x * y)≤a + b:=by
 refine Zaf.2 ?_
 rw [Nat.pow_add]
 exact Nat.mul_lt_mul_of_lt_of_lt (Zaf.1 hx) (Zaf.1 hy)
theorem ZuI (J : Al G T g) {z y : Bool} {a b : Nat} (ha : mayL (dl a) = true) (hb : mayL (dl b) = true) (hs : (dl a).length + (dl b).length≤4096) : ∃ z',run G T 197 [D z (dl a),D y (dl b)] = some (.tup [D z' (dl (a * b)),.int .i64 0]):=by
 have h1:=Zlb (G:=G) J (z:=z) (y:=y) (a:=dl a) (b:=dl b)
 rw [ha,hb,Bool.and_self] at h1
 obtain ⟨z',h2⟩:=ZrT J (z:=z) (y:=y) (a:=a) (b:=b) (by omega)
 have hl : (dl (a * b)).length≤4096:=by
  have e1:=ZbX.1 (Nat.le_refl (dl a).length)
  have e2:=ZbX.1 (Nat.le_refl (dl b).length)
  have : (dl (a * b)).length≤(dl a).length + (dl b).length:=by
   rw [ZbX,Nat.pow_add]; exact Nat.mul_lt_mul_of_lt_of_lt e1 e2
  omega
 have h3:=Zlz J (z:=z') hl
 have c1 : ¬ (4096 : Int) < ((dl a).length : Int) + ((dl b).length : Int) - 1:=by omega
 refine ⟨z',?_⟩
 rw [Zab G T J.U.ZuI]
 by_cases k1 : (0 : Int) < ((dl a).length : Int)
 ·by_cases k2 : (0 : Int) < ((dl b).length : Int)
  ·repeat' (first|simp (maxSteps:=9^7) only [seval,exC,Zjo,h1,h2,h3,c1,k1,k2]|simp (maxSteps:=9^7) (disch:=first|with_reducible assumption|omega) only [dxB]|(simp only [kdB];split)|(simp only [kvB];split))
  ·repeat' (first|simp (maxSteps:=9^7) only [seval,exC,Zjo,h1,h2,h3,c1,k1,k2]|simp (maxSteps:=9^7) (disch:=first|with_reducible assumption|omega) only [dxB]|(simp only [kdB];split)|(simp only [kvB];split))
 ·repeat' (first|simp (maxSteps:=9^7) only [seval,exC,Zjo,h1,h2,h3,c1,k1]|simp (maxSteps:=9^7) (disch:=first|with_reducible assumption|omega) only [dxB]|(simp only [kdB];split)|(simp only [kvB];split))
theorem ZlN (J : Al G T g) {n z : Bool} {l : List Nat} {e : Int} (hl : l.length < 549755813888) : ∃ z',run G T 205 [A3 n (D z l) e] = some (A3 n (D z' l) e):=by
 apply exP
 rw [Zab G T J.U.ZlN]
 cases l with
 | nil =>
  simp only [A3] at *
  repeat' (first|simp (maxSteps:=9^7) only [seval,exC,Zjc,ZwS]|simp (maxSteps:=9^7) (disch:=first|with_reducible assumption|omega) only [dxB]|(simp only [kdB];split)|(simp only [kvB];split))
  exact ⟨_,rfl,true,rfl⟩
 | cons a l =>
  have ha : appV ⟨[⟨[.bool n,D z (a :: l),.int .i64 e],false⟩,⟨[.bool false,.nil,.int .i64 0],false⟩],[]⟩ 1 4 .nil (D z (a :: l)) =
    some (.own 2 0 (a :: l).length 1,⟨[⟨[.bool n,D z (a :: l),.int .i64 e],false⟩,⟨[.bool false,.nil,.int .i64 0],false⟩,⟨cells (a :: l),false⟩],[]⟩) :=
   Zzn (h:=⟨[⟨[.bool n,D z (a :: l),.int .i64 e],false⟩,⟨[.bool false,.nil,.int .i64 0],false⟩],[]⟩) (z:=z) (l:=a :: l) (by simp) hl
  simp only [A3] at *
  have hsub : sub (cells (a :: l)) 0 (l.length + 1) = some (cells (a :: l)):=Zuk (a :: l)
  repeat' (first|simp (maxSteps:=9^7) only [seval,exC,Zjc,ha,hsub,Zvy]|simp (maxSteps:=9^7) (disch:=first|with_reducible assumption|omega) only [dxB]|(simp only [kdB];split)|(simp only [kvB];split))
  exact ⟨_,rfl,false,rfl⟩
theorem ZmN (J : Al G T g) {n z s : Bool} {l : List Nat} {e : Int} (hl : l.length < 549755813888) : ∃ z',run G T 198 [A3 n (D z l) e,.bool s] = some (A3 (s && decide (0 < l.length)) (D z' l) e):=by
 obtain ⟨z',h1⟩:=ZlN J (n:=n) (z:=z) (l:=l) (e:=e) hl
 refine ⟨z',?_⟩
 rw [Zab G T J.U.ZmN]
 have e1 : decide ((0 : Int) < (l.length : Int)) = decide (0 < l.length):=by congr 1; apply propext; omega
 simp only [A3] at *
 cases s <;> (repeat' (first|simp (maxSteps:=9^7) only [seval,exC,ZgU,h1,e1]|simp (maxSteps:=9^7) (disch:=first|with_reducible assumption|omega) only [dxB]|(simp only [kdB];split)|(simp only [kvB];split)); all_goals try rfl)
theorem ZrK (J : Al G T g) {z : Bool} {d : Dy} (hd : mayD d.n (dl d.m) d.e = true) : ∃ z',run G T 184 [DyA z d] = some (.tup [DyA z' (negD d),.int .i64 0]):=by
 obtain ⟨f1,f2,f3,f4,f5⟩:=Zcq hd
 have hl:=(ZaG.1 f1).1
 have h1:=Zdb J d.n z (Zaq d.m) d.e
 rw [hd] at h1
 obtain ⟨z',h2⟩:=ZmN J (n:=d.n) (z:=z) (s:=!d.n) (l:=dl d.m) (e:=d.e) (by omega)
 refine ⟨z',?_⟩
 have hv : A3 (!d.n && decide (0 < (dl d.m).length)) (D z' (dl d.m)) d.e = DyA z' (negD d):=by
  by_cases h0 : d.m = 0
  ·have hz:=f2 (Zap.2 h0)
   unfold negD
   rw [if_pos h0,DyA,hz.1,h0,Zaj]; rfl
  ·rw [ZGE h0]
   have : 0 < (dl d.m).length:=Nat.pos_of_ne_zero (fun hc => h0 (Zap.1 hc))
   rw [decide_eq_true this,Bool.and_true]; rfl
 rw [hv] at h2
 rw [Zab G T J.U.ZrK]
 obtain ⟨n,m,e⟩:=d
 simp only [DyA,A3] at *
 cases n <;> (simp only [Bool.not_true,Bool.not_false] at h2; repeat' (first|simp (maxSteps:=9^7) only [seval,exC,Zmd,h1,h2]|simp (maxSteps:=9^7) (disch:=first|with_reducible assumption|omega) only [dxB]|(simp only [kdB];split)|(simp only [kvB];split)))
def joinD (p : Bool) (x : Nat) (q : Bool) (y : Nat) (e : Int) : Dy:=if p = q then mkD p (x + y) e else if y≤x then mkD p (x - y) e else mkD q (y - x) e
theorem ZqX {m : Nat} {e : Int} (hb : blen m≤131072) (he : -16000000 < e∧e < 16000000) : m = 0∨(-16777216≤e + (tz m : Int)∧e + (tz m : Int)≤16777216):=by
 by_cases h0 : m = 0
 ·exact Or.inl h0
 ·right; have:=Zgw h0; omega
theorem ZCA {x y : Nat} {K : Nat} (hx : blen x≤K) (hy : blen y≤K) : blen (x + y)≤K + 1:=by
 refine Zaf.2 ?_
 have h1:=Zaf.1 hx
 have h2:=Zaf.1 hy
 rw [Nat.pow_succ]; omega
theorem Zjn (J : Al G T g) {p q z y : Bool} {x w : Nat} {e : Int} (hx : blen x≤131071) (hw : blen w≤131071) (he : -16000000 < e∧e < 16000000) :
  ∃ z',run G T 208 [.bool p,D z (dl x),.bool q,D y (dl w),.int .i64 e] = some (.tup [DyA z' (joinD p x q w e),.int .i64 0]):=by
 have mx : mayL (dl x) = true:=Zak (by omega)
 have mw : mayL (dl w) = true:=Zak (by omega)
 have hxw:=ZCA hx hw
 by_cases h1 : p = q
 ·have hl:=Zaa (x + w)
  obtain ⟨z1,a1⟩:=Zsi J (z:=z) (y:=y) (a:=x) (b:=w) mx mw (by omega)
  obtain ⟨z2,a2⟩:=ZbS J (n:=p) (z:=z1) (a:=x + w) (e:=e) (Zak (by omega)) (ZqX (by omega) he) (by omega)
  refine ⟨z2,?_⟩
  unfold joinD
  rw [if_pos h1,Zab G T J.U.Zjn]
  simp only [DyA,A3] at *
  subst h1
  cases p <;> repeat' (first|simp (maxSteps:=9^7) only [seval,exC,Zfi,a1,a2]|simp (maxSteps:=9^7) (disch:=first|with_reducible assumption|omega) only [dxB]|(simp only [kdB];split)|(simp only [kvB];split))
 ·have c0:=Zuj J (z:=z) (y:=y) (a:=x) (b:=w) mx mw
  by_cases h2 : w≤x
  ·have hb:=Zam (Nat.sub_le x w)
   have c1 : ¬ cmpN x w < 0:=by rw [ZcV]; omega
   obtain ⟨z1,a1⟩:=Zsp J (z:=z) (y:=y) (a:=x) (b:=w) mx mw h2
   obtain ⟨z2,a2⟩:=ZbS J (n:=p) (z:=z1) (a:=x - w) (e:=e) (Zak (by omega)) (ZqX (by omega) he) (by omega)
   refine ⟨z2,?_⟩
   unfold joinD
   rw [if_neg h1,if_pos h2,Zab G T J.U.Zjn]
   simp only [DyA,A3] at *
   cases p <;> cases q <;> first | (exact absurd rfl h1) | (repeat' (first|simp (maxSteps:=9^7) only [seval,exC,Zfi,c0,c1,a1,a2]|simp (maxSteps:=9^7) (disch:=first|with_reducible assumption|omega) only [dxB]|(simp only [kdB];split)|(simp only [kvB];split)))
  ·have hb:=Zam (Nat.sub_le w x)
   have c1 : cmpN x w < 0:=by rw [ZcV]; omega
   obtain ⟨z1,a1⟩:=Zsp J (z:=y) (y:=z) (a:=w) (b:=x) mw mx (by omega)
   obtain ⟨z2,a2⟩:=ZbS J (n:=q) (z:=z1) (a:=w - x) (e:=e) (Zak (by omega)) (ZqX (by omega) he) (by omega)
   refine ⟨z2,?_⟩
   unfold joinD
   rw [if_neg h1,if_neg h2,Zab G T J.U.Zjn]
   simp only [DyA,A3] at *
   cases p <;> cases q <;> first | (exact absurd rfl h1) | (repeat' (first|simp (maxSteps:=9^7) only [seval,exC,Zfi,c0,c1,a1,a2]|simp (maxSteps:=9^7) (disch:=first|with_reducible assumption|omega) only [dxB]|(simp only [kdB];split)|(simp only [kvB];split)))
theorem ZsS {a b : Dy} (ha : a.m≠0) (hb : b.m≠0) (he : b.e≤a.e) : joinD a.n (a.m * 2 ^ (a.e - b.e).toNat) b.n b.m b.e = addD a b:=by
 unfold joinD addD
 rw [if_neg ha,if_neg hb,Int.min_eq_right he,show (b.e - b.e).toNat = 0 by omega,Nat.pow_zero,Nat.mul_one]
theorem ZtT (J : Al G T g) {z y : Bool} {a b : Dy} (ha : Bd a 16384) (hb : Bd b 16384) (na : a.m≠0) (nb : b.m≠0) (he : b.e≤a.e) :
  ∃ z',run G T 203 [DyA z a,DyA y b] = some (.tup [DyA z' (addD a b),.int .i64 0]):=by
 obtain ⟨a1,a2,a3⟩:=ha
 obtain ⟨b1,b2,b3⟩:=hb
 have ma : mayL (dl a.m) = true:=Zak (by omega)
 have l1:=ZhE J (z:=z) ma
 obtain ⟨z1,s1⟩:=ZdV J (z:=z) (a:=a.m) (n:=(a.e - b.e).toNat) ma (Or.inr (by omega)) (by omega)
 rw [show (((a.e - b.e).toNat : Nat) : Int) = a.e - b.e by omega] at s1
 have hbl:=Zan na (a.e - b.e).toNat
 obtain ⟨z2,j1⟩:=Zjn J (p:=a.n) (q:=b.n) (z:=z1) (y:=y) (x:=a.m * 2 ^ (a.e - b.e).toNat) (w:=b.m) (e:=b.e) (by omega) (by omega) (by omega)
 rw [ZsS na nb he] at j1
 have c1 : ¬ ((dl a.m).length : Int) = 0:=fun hc => na (Zap.1 (by omega))
 have c2 : ¬ ((dl b.m).length : Int) = 0:=fun hc => nb (Zap.1 (by omega))
 have c3 : ¬ a.e < b.e:=by omega
 have w1 : IntKind.i64.wrap (a.e - b.e) = a.e - b.e:=Zac (by omega)
 have w2 : IntKind.i64.wrap (a.e - b.e + (blen a.m : Int)) = a.e - b.e + (blen a.m : Int):=Zac (by omega)
 have c4 : ¬ (131073 : Int) < a.e - b.e + (blen a.m : Int):=by omega
 have c5 : ¬ (131072 : Int) < a.e - b.e + (blen a.m : Int):=by omega
 refine ⟨z2,?_⟩
 rw [Zab G T J.U.ZlI]
 generalize addD a b = d at *
 obtain ⟨n,m,e⟩:=a
 obtain ⟨n',m',e'⟩:=b
 clear hbl a1 a2 a3 b1 b2 b3
 simp only [DyA,A3] at *
 repeat' (first|simp (maxSteps:=9^7) only [seval,exC,Zfd,c1,c2,c3,c4,c5,w1,w2,l1,s1,j1]|simp (maxSteps:=9^7) (disch:=first|with_reducible assumption|omega) only [dxB]|(simp only [kdB];split)|(simp only [kvB];split))
theorem ZlI (J : Al G T g) {z y : Bool} {a b : Dy} (ha : Bd a 16384) (hb : Bd b 16384) (za : Nz a) (zb : Nz b) :
  ∃ z',run G T 203 [DyA z a,DyA y b] = some (.tup [DyA z' (addD a b),.int .i64 0]):=by
 by_cases na : a.m = 0
 ·have hl:=Zaa b.m
  have hbl:=hb.bl
  obtain ⟨z1,h1⟩:=ZlN J (n:=b.n) (z:=y) (l:=dl b.m) (e:=b.e) (by omega)
  have c1 : ((dl a.m).length : Int) = 0:=by have:=Zap.2 na; omega
  refine ⟨z1,?_⟩
  rw [Zab G T J.U.ZlI]
  unfold addD
  rw [if_pos na]
  obtain ⟨n,m,e⟩:=a
  obtain ⟨n',m',e'⟩:=b
  simp only [DyA,A3] at *
  repeat' (first|simp (maxSteps:=9^7) only [seval,exC,Zfd,c1,h1]|simp (maxSteps:=9^7) (disch:=first|with_reducible assumption|omega) only [dxB]|(simp only [kdB];split)|(simp only [kvB];split))
 ·by_cases nb : b.m = 0
  ·have hl:=Zaa a.m
   have hbl:=ha.bl
   obtain ⟨z1,h1⟩:=ZlN J (n:=a.n) (z:=z) (l:=dl a.m) (e:=a.e) (by omega)
   have c1 : ¬ ((dl a.m).length : Int) = 0:=fun hc => na (Zap.1 (by omega))
   have c2 : ((dl b.m).length : Int) = 0:=by have:=Zap.2 nb; omega
   refine ⟨z1,?_⟩
   rw [Zab G T J.U.ZlI]
   unfold addD
   rw [if_neg na,if_pos nb]
   obtain ⟨n,m,e⟩:=a
   obtain ⟨n',m',e'⟩:=b
   simp only [DyA,A3] at *
   repeat' (first|simp (maxSteps:=9^7) only [seval,exC,Zfd,c1,c2,h1]|simp (maxSteps:=9^7) (disch:=first|with_reducible assumption|omega) only [dxB]|(simp only [kdB];split)|(simp only [kvB];split))
  ·by_cases he : b.e≤a.e
   ·exact ZtT J ha hb na nb he
   ·obtain ⟨a1,a2,a3⟩:=ha
    obtain ⟨b1,b2,b3⟩:=hb
    have mb : mayL (dl b.m) = true:=Zak (by omega)
    have l1:=ZhE J (z:=y) mb
    obtain ⟨z1,s1⟩:=ZdV J (z:=y) (a:=b.m) (n:=(b.e - a.e).toNat) mb (Or.inr (by omega)) (by omega)
    rw [show (((b.e - a.e).toNat : Nat) : Int) = b.e - a.e by omega] at s1
    have hbl:=Zan nb (b.e - a.e).toNat
    obtain ⟨z2,j1⟩:=Zjn J (p:=b.n) (q:=a.n) (z:=z1) (y:=z) (x:=b.m * 2 ^ (b.e - a.e).toNat) (w:=a.m) (e:=a.e) (by omega) (by omega) (by omega)
    rw [ZsS nb na (by omega),ZAB zb za] at j1
    have c1 : ¬ ((dl a.m).length : Int) = 0:=fun hc => na (Zap.1 (by omega))
    have c2 : ¬ ((dl b.m).length : Int) = 0:=fun hc => nb (Zap.1 (by omega))
    have c3 : a.e < b.e:=by omega
    have w1 : IntKind.i64.wrap (b.e - a.e) = b.e - a.e:=Zac (by omega)
    have w2 : IntKind.i64.wrap (b.e - a.e + (blen b.m : Int)) = b.e - a.e + (blen b.m : Int):=Zac (by omega)
    have c4 : ¬ (131073 : Int) < b.e - a.e + (blen b.m : Int):=by omega
    have c5 : ¬ (131072 : Int) < b.e - a.e + (blen b.m : Int):=by omega
    refine ⟨z2,?_⟩
    rw [Zab G T J.U.ZlI]
    generalize addD a b = d at *
    obtain ⟨n,m,e⟩:=a
    obtain ⟨n',m',e'⟩:=b
    clear hbl a1 a2 a3 b1 b2 b3
    simp only [DyA,A3] at *
    repeat' (first|simp (maxSteps:=9^7) only [seval,exC,Zfd,c1,c2,c3,c4,c5,w1,w2,l1,s1,j1]|simp (maxSteps:=9^7) (disch:=first|with_reducible assumption|omega) only [dxB]|(simp only [kdB];split)|(simp only [kvB];split))
theorem Zni (J : Al G T g) {z y : Bool} {a b : Dy} (ha : Bd a 16384) (hb : Bd b 16384) (da : mayD a.n (dl a.m) a.e = true) (db : mayD b.n (dl b.m) b.e = true) :
  ∃ z',run G T 195 [DyA z a,DyA y b] = some (.tup [DyA z' (addD a b),.int .i64 0]):=by
 have h1:=Zlk J (n:=a.n) (z:=z) (n':=b.n) (z':=y) (Zaq a.m) (Zaq b.m) (e:=a.e) (e':=b.e)
 rw [da,db,Bool.and_self] at h1
 obtain ⟨z',h2⟩:=ZlI J (z:=z) (y:=y) ha hb (ZzW da) (ZzW db)
 refine ⟨z',?_⟩
 rw [Zab G T J.U.Zni]
 generalize addD a b = d at *
 obtain ⟨n,m,e⟩:=a
 obtain ⟨n',m',e'⟩:=b
 simp only [DyA,A3] at *
 repeat' (first|simp (maxSteps:=9^7) only [seval,exC,ZlP,h1,h2]|simp (maxSteps:=9^7) (disch:=first|with_reducible assumption|omega) only [dxB]|(simp only [kdB];split)|(simp only [kvB];split))
theorem ZlE (J : Al G T g) {z y : Bool} {a b : Dy} (ha : Bd a 16384) (hb : Bd b 16384) (da : mayD a.n (dl a.m) a.e = true) (db : mayD b.n (dl b.m) b.e = true) :
  ∃ z',run G T 182 [DyA z a,DyA y b] = some (.tup [DyA z' (mulD a b),.int .i64 0]):=by
 have h1:=Zlk J (n:=a.n) (z:=z) (n':=b.n) (z':=y) (Zaq a.m) (Zaq b.m) (e:=a.e) (e':=b.e)
 rw [da,db,Bool.and_self] at h1
 obtain ⟨a1,a2,a3⟩:=ha
 obtain ⟨b1,b2,b3⟩:=hb
 have hl1:=Zaa a.m
 have hl2:=Zaa b.m
 obtain ⟨z1,h2⟩:=ZuI J (z:=z) (y:=y) (a:=a.m) (b:=b.m) (Zak (by omega)) (Zak (by omega)) (by omega)
 have hb : blen (a.m * b.m)≤32768:=by have:=Zzh a1 b1; omega
 obtain ⟨z2,h3⟩:=ZbS J (n:=a.n != b.n) (z:=z1) (a:=a.m * b.m) (e:=a.e + b.e) (Zak (by omega)) (ZqX (by omega) (by omega)) (by omega)
 have w1 : IntKind.i64.wrap (a.e + b.e) = a.e + b.e:=Zac (by omega)
 refine ⟨z2,?_⟩
 rw [Zab G T J.U.ZlE]
 unfold mulD
 clear hb
 obtain ⟨n,m,e⟩:=a
 obtain ⟨n',m',e'⟩:=b
 have hne : (n != n') = !decide (n = n'):=by cases n <;> cases n' <;> rfl
 simp only at *
 rw [hne] at h3 ⊢
 simp only [DyA,A3] at *
 repeat' (first|simp (maxSteps:=9^7) only [seval,exC,ZlM,h1,h2,w1,h3]|simp (maxSteps:=9^7) (disch:=first|with_reducible assumption|omega) only [dxB]|(simp only [kdB];split)|(simp only [kvB];split))
theorem ZCb {w k : Nat} (hk : k < 64) (hw : w < 2 ^ (k + 1)) : w &&& (2 ^ 64 - (2 ^ k + 1)) = w % 2 ^ k:=by
 apply Nat.eq_of_testBit_eq
 intro i
 have hp : (2 : Nat) ^ k < 2 ^ 64:=Nat.pow_lt_pow_right (by decide) hk
 rw [Nat.testBit_and,Nat.testBit_mod_two_pow,Nat.testBit_two_pow_sub_succ hp,Nat.testBit_two_pow]
 by_cases h1 : i < k
 ·rw [decide_eq_true h1,decide_eq_true (show i < 64 by omega),decide_eq_false (show ¬ k = i by omega)]; simp
 ·rw [decide_eq_false h1]
  by_cases h2 : i = k
  ·rw [decide_eq_true h2.symm]; simp
  ·have : w.testBit i = false:=Nat.testBit_lt_two_pow (Nat.lt_of_lt_of_le hw (Nat.pow_le_pow_right (by decide) (by omega)))
   rw [this]; simp
theorem andn64 {w k : Nat} (hk : k < 64) (hw : w < 2 ^ (k + 1)) : andNotI .u64 (w : Int) ((2 ^ k : Nat) : Int) = ((w % 2 ^ k : Nat) : Int):=by
 have hp : (2 : Nat) ^ k < 2 ^ 64:=Nat.pow_lt_pow_right (by decide) hk
 have hw2 : w < 2 ^ 64:=Nat.lt_of_lt_of_le hw (Nat.pow_le_pow_right (by decide) (by omega))
 have hlt : w % 2 ^ k < 2 ^ k:=Nat.mod_lt _ (Nat.two_pow_pos k)
 rw [ZqN]
 show IntKind.u64.wrap ((BitVec.ofInt 64 (w : Int) &&& ~~~BitVec.ofInt 64 ((2 ^ k : Nat) : Int)).toNat : Int) = _
 rw [show BitVec.ofInt 64 (w : Int) = BitVec.ofNat 64 w from rfl,show BitVec.ofInt 64 ((2 ^ k : Nat) : Int) = BitVec.ofNat 64 (2 ^ k) from rfl,BitVec.toNat_and,BitVec.toNat_not,BitVec.toNat_ofNat,BitVec.toNat_ofNat,Nat.mod_eq_of_lt hw2,Nat.mod_eq_of_lt hp,
  show 2 ^ 64 - 1 - 2 ^ k = 2 ^ 64 - (2 ^ k + 1) by omega,ZCb hk hw,ZgX]
 omega
theorem ZDA {w : Nat} (h : w < 4294967296) : andNotI .u64 (w : Int) 2147483648 = ((w % 2147483648 : Nat) : Int):=andn64 (k:=31) (by decide) h
theorem ZEa {w : Nat} (h : w < 18446744073709551616) : andNotI .u64 (w : Int) 9223372036854775808 = ((w % 9223372036854775808 : Nat) : Int):=andn64 (k:=63) (by decide) h
theorem ZxJ {w k : Nat} (hw : w < 2 ^ k) : w &&& 2 ^ k = 0:=by
 apply Nat.eq_of_testBit_eq
 intro i
 rw [Nat.testBit_and,Nat.testBit_two_pow,Nat.zero_testBit]
 by_cases h : k = i
 ·subst h; rw [Nat.testBit_lt_two_pow hw]; rfl
 ·rw [decide_eq_false h,Bool.and_false]
theorem ZxP {w k : Nat} (h1 : 2 ^ k≤w) (hw : w < 2 ^ (k + 1)) : w &&& 2 ^ k = 2 ^ k:=by
 apply Nat.eq_of_testBit_eq
 intro i
 rw [Nat.testBit_and,Nat.testBit_two_pow]
 rw [Nat.pow_succ] at hw
 by_cases h : k = i
 ·subst h
  have : w / 2 ^ k = 1:=Nat.div_eq_of_lt_le (by omega) (by omega)
  rw [Nat.testBit_eq_decide_div_mod_eq,this]; rfl
 ·rw [decide_eq_false h,Bool.and_false]
theorem ZyJ {w k : Nat} (hk : k < 64) (hw : w < 2 ^ (k + 1)) : andI .u64 (w : Int) ((2 ^ k : Nat) : Int) = if 2 ^ k≤w then ((2 ^ k : Nat) : Int) else 0:=by
 have hp : (2 : Nat) ^ k < 2 ^ 64:=Nat.pow_lt_pow_right (by decide) hk
 have hw2 : w < 2 ^ 64:=Nat.lt_of_lt_of_le hw (Nat.pow_le_pow_right (by decide) (by omega))
 rw [and64 (by omega) (by omega)]
 by_cases h : 2 ^ k≤w
 ·rw [if_pos h,ZxP h hw]
 ·rw [if_neg h,ZxJ (by omega)]; rfl
theorem ZIx {w : Nat} (h : w < 4294967296) : andI .u64 (w : Int) 2147483648 = if 2147483648≤w then 2147483648 else 0:=ZyJ (k:=31) (by decide) h
theorem ZJa {w : Nat} (h : w < 18446744073709551616) : andI .u64 (w : Int) 9223372036854775808 = if 9223372036854775808≤w then 9223372036854775808 else 0:=ZyJ (k:=63) (by decide) h
theorem ZGJ {w : Nat} (h : w < 18446744073709551616) : andI .u64 (w : Int) 8388607 = ((w % 8388608 : Nat) : Int):=Zru (j:=23) h (by decide)
theorem ZGC {w : Nat} (h : w < 18446744073709551616) : andI .u64 (w : Int) 4503599627370495 = ((w % 4503599627370496 : Nat) : Int):=Zru (j:=52) h (by decide)
theorem or_s : orI .u64 2147483648 2147483647 = 4294967295:=by rw [Zqo]; rfl
theorem or_d : orI .u64 9223372036854775808 9223372036854775807 = 18446744073709551615:=by rw [Zqo]; rfl
theorem ZIu : orI .u64 2139095040 4194304 = 2143289344:=by rw [Zqo]; rfl
theorem ZIT : orI .u64 9218868437227405312 2251799813685248 = 9221120237041090560:=by rw [Zqo]; rfl
theorem ZrV (e : Env) (h : Heap) : evL G T Zcp e h = kS G T (evL G T ZbE (keepE [4,6,18,19,20] e) h) Zcp:=Zae G T rfl e h
theorem ia11 (x : AV) (k : IntKind) : iaddrV 1 (.imm 1 [x]) (.int k 0) = some (.iptr [x] 0):=rfl
theorem rd11 (h : Mem) (x : AV) : rdAt G h 1 (.iptr [x] 0) = some [x]:=rfl
theorem Zhg (J : Al G T g) (F : Fm) {w : Nat} (hw : w < 18446744073709551616) : run G T 95 [.int .u8 F.u,.imm 1 [.int .u64 (w : Int)]] = some (.tup [shA F,.int .i64 (if w < 2 * F.sg then 0 else 6)]):=by
 rw [Zab G T J.D.word_open]
 have h1:=Zga (G:=G) J F
 have wr : IntKind.i64.wrap 1 = 1:=rfl
 by_cases hk : w < 2 * F.sg
 ·rw [if_pos hk]
  cases F
  ·simp only [shA,Fm.u,Fm.fr,Fm.sg,Fm.most,Int.cast_ofNat_Int,Nat.reduceMul] at *
   have c1 : ¬ (4294967295 : Int) < (w : Int):=by omega
   repeat' (first|simp (maxSteps:=9^7) only [seval,exC,ZcC,h1,ZrV,ZbE,ia11,rd11,or_s,or_d,c1,wr]|simp (maxSteps:=9^7) (disch:=first|with_reducible assumption|omega) only [dxB]|(simp only [kdB];split)|(simp only [kvB];split))
  ·simp only [shA,Fm.u,Fm.fr,Fm.sg,Fm.most,Int.cast_ofNat_Int,Nat.reduceMul] at *
   have c1 : ¬ (18446744073709551615 : Int) < (w : Int):=by omega
   repeat' (first|simp (maxSteps:=9^7) only [seval,exC,ZcC,h1,ZrV,ZbE,ia11,rd11,or_s,or_d,c1,wr]|simp (maxSteps:=9^7) (disch:=first|with_reducible assumption|omega) only [dxB]|(simp only [kdB];split)|(simp only [kvB];split))
 ·rw [if_neg hk]
  cases F
  ·simp only [shA,Fm.u,Fm.fr,Fm.sg,Fm.most,Int.cast_ofNat_Int,Nat.reduceMul] at *
   have c1 : (4294967295 : Int) < (w : Int):=by omega
   repeat' (first|simp (maxSteps:=9^7) only [seval,exC,ZcC,h1,ZrV,ZbE,ia11,rd11,or_s,or_d,c1,wr]|simp (maxSteps:=9^7) (disch:=first|with_reducible assumption|omega) only [dxB]|(simp only [kdB];split)|(simp only [kvB];split))
  ·simp only [Fm.sg] at hk; omega
theorem ZCs (F : Fm) (w : Nat) : (F.ex w = 0∧F.fc w = 0∧F.cls w = 1)∨(F.ex w = 0∧F.fc w≠0∧F.cls w = 2)∨(F.ex w≠0∧F.ex w < F.most∧F.cls w = 3)∨(F.ex w≠0∧¬ F.ex w < F.most∧F.fc w = 0∧F.cls w = 4)∨(F.ex w≠0∧¬ F.ex w < F.most∧F.fc w≠0∧F.cls w = 5):=by
 unfold Fm.cls
 generalize F.ex w = x
 generalize F.fc w = y
 repeat' split
 all_goals omega
theorem ZFF (F : Fm) (w : Nat) : (F.ng w = true∧F.sg≤w)∨(F.ng w = false∧w < F.sg):=by
 unfold Fm.ng
 by_cases h : F.sg≤w
 ·left; exact ⟨decide_eq_true h,h⟩
 ·right; exact ⟨decide_eq_false h,by omega⟩
theorem Zoo (J : Al G T g) (F : Fm) {w : Nat} (hw : w < 2 * F.sg) : run G T 201 [shA F,.int .u64 (w : Int)] = some (.int .u8 (F.cls w)):=by
 rw [Zab G T J.U.word_shape_class]
 obtain ⟨q1,q2,q3,q4⟩:=Zlu hw
 have hc:=ZCs F w
 have hlt : w % F.sg < F.sg:=Nat.mod_lt _ (by cases F <;> decide)
 clear q1
 generalize F.cls w = c at *
 generalize F.ex w = x at *
 generalize F.fc w = y at *
 cases F
 ·have h2:=ZDA (w:=w) hw
  have hi:=Zne J .s
  simp only [shA,Fm.u,Fm.fr,Fm.sg,Fm.most,Int.cast_ofNat_Int,Nat.reducePow,Nat.reduceMul] at *
  generalize w % 2147483648 = s at *
  repeat' (first|simp (maxSteps:=9^7) only [seval,exC,Zbx,h2,hi]|simp (maxSteps:=9^7) (disch:=first|with_reducible assumption|omega) only [dxB]|(simp only [kdB];split)|(simp only [kvB];split))
  all_goals (refine ZlG ?_; omega)
 ·have h2:=ZEa (w:=w) hw
  have hi:=Zne J .d
  simp only [shA,Fm.u,Fm.fr,Fm.sg,Fm.most,Int.cast_ofNat_Int,Nat.reducePow,Nat.reduceMul] at *
  generalize w % 9223372036854775808 = s at *
  repeat' (first|simp (maxSteps:=9^7) only [seval,exC,Zbx,h2,hi]|simp (maxSteps:=9^7) (disch:=first|with_reducible assumption|omega) only [dxB]|(simp only [kdB];split)|(simp only [kvB];split))
  all_goals (refine ZlG ?_; omega)
theorem Zrg (J : Al G T g) (F : Fm) {w : Nat} (hw : w < 2 * F.sg) : run G T 200 [shA F,.int .u64 (w : Int)] = some (fldA (F.ng w) (F.ex w) (F.fc w)):=by
 rw [Zab G T J.U.word_shape_split]
 have hlt : w % F.sg < F.sg:=Nat.mod_lt _ (by cases F <;> decide)
 have hn:=ZFF F w
 have e2 : w % F.sg / 2 ^ F.fr = F.ex w:=rfl
 have e3 : w % F.sg % 2 ^ F.fr = F.fc w:=rfl
 have q4:=(Zlu hw).2.2.2
 generalize F.ng w = n at *
 generalize F.ex w = x at *
 generalize F.fc w = y at *
 cases F
 ·have h2:=ZDA (w:=w) hw
  have h4:=ZIx (w:=w) hw
  simp only [shA,Fm.u,Fm.fr,Fm.sg,Fm.most,fldA,Int.cast_ofNat_Int,Nat.reducePow] at *
  generalize w % 2147483648 = s at *
  have h5:=ZGJ (w:=s) (by omega)
  rw [e3] at h5
  have w1 : (s : Int) / 8388608 = (x : Int):=by omega
  rcases hn with ⟨rfl,hn⟩ | ⟨rfl,hn⟩
  ·rw [if_pos hn] at h4
   repeat' (first|simp (maxSteps:=9^7) only [seval,exC,ZaF,h2,h4,h5,w1]|simp (maxSteps:=9^7) (disch:=first|with_reducible assumption|omega) only [dxB]|(simp only [kdB];split)|(simp only [kvB];split))
  ·rw [if_neg (by omega)] at h4
   repeat' (first|simp (maxSteps:=9^7) only [seval,exC,ZaF,h2,h4,h5,w1]|simp (maxSteps:=9^7) (disch:=first|with_reducible assumption|omega) only [dxB]|(simp only [kdB];split)|(simp only [kvB];split))
 ·have h2:=ZEa (w:=w) hw
  have h4:=ZJa (w:=w) hw
  simp only [shA,Fm.u,Fm.fr,Fm.sg,Fm.most,fldA,Int.cast_ofNat_Int,Nat.reducePow] at *
  generalize w % 9223372036854775808 = s at *
  have h5:=ZGC (w:=s) (by omega)
  rw [e3] at h5
  have w1 : (s : Int) / 4503599627370496 = (x : Int):=by omega
  rcases hn with ⟨rfl,hn⟩ | ⟨rfl,hn⟩
  ·rw [if_pos hn] at h4
   repeat' (first|simp (maxSteps:=9^7) only [seval,exC,ZaF,h2,h4,h5,w1]|simp (maxSteps:=9^7) (disch:=first|with_reducible assumption|omega) only [dxB]|(simp only [kdB];split)|(simp only [kvB];split))
  ·rw [if_neg (by omega)] at h4
   repeat' (first|simp (maxSteps:=9^7) only [seval,exC,ZaF,h2,h4,h5,w1]|simp (maxSteps:=9^7) (disch:=first|with_reducible assumption|omega) only [dxB]|(simp only [kdB];split)|(simp only [kvB];split))
theorem Zce {F : Fm} {w : Nat} (h : w < 2 * F.sg) : w < 18446744073709551616:=by
 have : 2 * F.sg≤18446744073709551616:=by cases F <;> decide
 omega
theorem Zbl (J : Al G T g) (F : Fm) {w : Nat} (hw : w < 2 * F.sg) : run G T 193 [.int .u8 F.u,.int .u64 (w : Int)] = some (.tup [.int .u8 (F.cls w),.int .i64 0]):=by
 rw [Zab G T J.U.Zbl]
 have h1:=Zhg J F (Zce hw)
 rw [if_pos hw] at h1
 have h2:=Zoo J F hw
 generalize F.cls w = c at *
 simp only [shA] at *
 repeat' (first|simp (maxSteps:=9^7) only [seval,exC,ZfW,h1,h2]|simp (maxSteps:=9^7) (disch:=first|with_reducible assumption|omega) only [dxB]|(simp only [kdB];split)|(simp only [kvB];split))
theorem Zfm (J : Al G T g) (F : Fm) {w : Nat} (hw : w < 2 * F.sg) : run G T 192 [.int .u8 F.u,.int .u64 (w : Int)] = some (.tup [fldA (F.ng w) (F.ex w) (F.fc w),.int .i64 0]):=by
 rw [Zab G T J.U.Zfm]
 have h1:=Zhg J F (Zce hw)
 rw [if_pos hw] at h1
 have h2:=Zrg J F hw
 generalize F.ng w = n at *
 generalize F.ex w = x at *
 generalize F.fc w = y at *
 simp only [shA,fldA] at *
 repeat' (first|simp (maxSteps:=9^7) only [seval,exC,ZiB,h1,h2]|simp (maxSteps:=9^7) (disch:=first|with_reducible assumption|omega) only [dxB]|(simp only [kdB];split)|(simp only [kvB];split))
theorem Zmz (J : Al G T g) (F : Fm) {w : Nat} (hw : w < 2 * F.sg) : run G T 202 [.int .u8 F.u,.int .u64 (w : Int)] = some (.tup [shA F,.int .i64 (if F.fin w then 0 else 7)]):=by
 rw [Zab G T J.U.Zmz]
 have h1:=Zhg J F (Zce hw)
 rw [if_pos hw] at h1
 have h2:=Zoo J F hw
 have h3:=Zag (F:=F) (w:=w)
 have h4:=ZaN F w
 by_cases hf : F.fin w
 ·rw [if_pos hf]
  have h5:=h3.1 hf
  clear h3
  generalize F.cls w = c at *
  have c1 : ¬ (4 : Int)≤c:=by omega
  simp only [shA] at *
  repeat' (first|simp (maxSteps:=9^7) only [seval,exC,ZeL,h1,h2,c1]|simp (maxSteps:=9^7) (disch:=first|with_reducible assumption|omega) only [dxB]|(simp only [kdB];split)|(simp only [kvB];split))
 ·rw [if_neg hf]
  have h5 : ¬ (F.cls w = 1∨F.cls w = 2∨F.cls w = 3):=fun h => hf (h3.2 h)
  clear h3
  generalize F.cls w = c at *
  have c1 : (4 : Int)≤c:=by omega
  simp only [shA] at *
  repeat' (first|simp (maxSteps:=9^7) only [seval,exC,ZeL,h1,h2,c1]|simp (maxSteps:=9^7) (disch:=first|with_reducible assumption|omega) only [dxB]|(simp only [kdB];split)|(simp only [kvB];split))
theorem ZIN {y k : Nat} (h : y < 2 ^ k) (hk : k < 63) : orI .u64 (y : Int) ((2 ^ k : Nat) : Int) = ((2 ^ k + y : Nat) : Int):=by
 have hp : (2 : Nat) ^ k < 2 ^ 64:=Nat.pow_lt_pow_right (by decide) (by omega)
 have e:=Zmr (c:=y) (x:=1) (s:=k) h
 rw [Nat.one_mul] at e
 rw [or64 (by omega) (by omega),e,Nat.add_comm]
theorem Zcs (J : Al G T g) (F : Fm) {w : Nat} (hw : w < 2 * F.sg) :
  ∃ z k,run G T 194 [.int .u8 F.u,.int .u64 (w : Int)] = some (.tup [DyA z (F.vl w),.int .i64 k]):=by
 have h1:=Zmz J F hw
 by_cases hf : F.fin w
 ·rw [if_pos hf] at h1
  have h2:=Zrg J F hw
  have h3:=ZvW J F
  have hy : F.fc w < 2 ^ F.fr:=Nat.mod_lt _ (Nat.two_pow_pos _)
  have hp : 2 ^ F.fr≤4503599627370496:=by cases F <;> decide
  have hF:=Zba F
  have hm : F.most≤2047:=by cases F <;> decide
  have hvl : F.vl w = F.val w:=if_pos hf
  rw [hvl]
  unfold Fm.fin at hf
  unfold Fm.val
  have hor:=ZIN hy (by omega)
  generalize F.ex w = x at *
  generalize F.fc w = y at *
  generalize F.ng w = n at *
  have hb1 : blen y≤53:=Zaf.2 (by omega)
  have hb2 : blen (2 ^ F.fr + y)≤53:=Zaf.2 (by omega)
  have hmin : min F.fr 64 = F.fr:=by omega
  have hp0:=Nat.two_pow_pos F.fr
  by_cases h0 : x = 0
  ·subst h0
   obtain ⟨z1,o1⟩:=Zpk J (n:=y) (by omega)
   obtain ⟨z2,o2⟩:=ZbS J (n:=n) (z:=z1) (a:=y) (e:=F.low) (Zak (by omega)) (ZqX (by omega) (by omega)) (by omega)
   have w1 : max (0 : Int) 1 = 1:=by decide
   have w2 : IntKind.i64.wrap (1 - 1) = 0:=rfl
   have w3 : IntKind.i64.wrap (0 + F.low) = F.low:=by rw [Int.zero_add]; exact Zac (by omega)
   have w4 : IntKind.i64.wrap F.low = F.low:=Zac (by omega)
   refine ⟨z2,0,?_⟩
   rw [if_pos rfl,Zab G T J.U.Zcs]
   simp only [shA,fldA,cast0,DyA,A3] at *
   repeat' (first|simp (maxSteps:=9^7) only [seval,exC,ZdX,h1,h2,h3,o1,w1,w2,w3,w4,Zkt,o2,Int.zero_add]|simp (maxSteps:=9^7) (disch:=first|with_reducible assumption|omega) only [dxB]|(simp only [kdB];split)|(simp only [kvB];split))
  ·obtain ⟨z1,o1⟩:=Zpk J (n:=2 ^ F.fr + y) (by omega)
   obtain ⟨z2,o2⟩:=ZbS J (n:=n) (z:=z1) (a:=2 ^ F.fr + y) (e:=x - 1 + F.low) (Zak (by omega)) (ZqX (by omega) (by omega)) (by omega)
   have c0 : (0 : Int) < (x : Int):=by omega
   have w1 : max (x : Int) 1 = x:=by omega
   have w2 : IntKind.i64.wrap ((x : Int) - 1) = x - 1:=Zac (by omega)
   have w3 : IntKind.i64.wrap ((x : Int) - 1 + F.low) = x - 1 + F.low:=Zac (by omega)
   have w5 : (1 * (2 : Int) ^ F.fr) % 18446744073709551616 = ((2 ^ F.fr : Nat) : Int):=by rw [ZaW]; omega
   have w6 : ((2 : Int) ^ F.fr) % 18446744073709551616 = ((2 ^ F.fr : Nat) : Int):=by rw [ZaW]; omega
   refine ⟨z2,0,?_⟩
   rw [if_neg h0,Zab G T J.U.Zcs]
   simp only [shA,fldA,DyA,A3] at *
   repeat' (first|simp (maxSteps:=9^7) only [seval,exC,ZdX,h1,h2,h3,c0,hmin,w5,w6,hor,o1,w1,w2,w3,Zkt,o2]|simp (maxSteps:=9^7) (disch:=first|with_reducible assumption|omega) only [dxB]|(simp only [kdB];split)|(simp only [kvB];split))
 ·rw [if_neg hf] at h1
  refine ⟨true,7,?_⟩
  have hvl : F.vl w = ⟨false,0,0⟩:=if_neg hf
  rw [hvl,Zab G T J.U.Zcs]
  simp only [shA,DyA,A3,Zaj] at *
  repeat' (first|simp (maxSteps:=9^7) only [seval,exC,ZdX,h1]|simp (maxSteps:=9^7) (disch:=first|with_reducible assumption|omega) only [dxB]|(simp only [kdB];split)|(simp only [kvB];split))
  all_goals try rfl
theorem ZsT (J : Al G T g) (F : Fm) : run G T 204 [shA F] = some (.int .u64 (F.nan : Int)):=by
 rw [Zab G T J.U.word_shape_none]
 have h:=Zne (G:=G) J F
 cases F <;> (
  simp only [shA,Fm.u,Fm.fr,Fm.sg,Fm.most,Fm.nan,Int.cast_ofNat_Int,Nat.reducePow,Nat.reduceMul,Nat.reduceSub,Nat.reduceAdd] at *
  repeat' (first|simp (maxSteps:=9^7) only [seval,exC,ZcX,h,ZIu,ZIT]|simp (maxSteps:=9^7) (disch:=first|with_reducible assumption|omega) only [dxB]|(simp only [kdB];split)|(simp only [kvB];split)))
theorem Zgg (J : Al G T g) (F : Fm) : run G T 196 [.int .u8 F.u] = some (.tup [.int .u64 (F.nan : Int),.int .i64 0]):=by
 rw [Zab G T J.U.Zgg]
 have h:=Zfg (G:=G) J F (n:=false) (k:=204) (ZsT J F) (by cases F <;> decide)
 rw [show F.nan + F.sgn false = F.nan from rfl] at h
 repeat' (first|simp (maxSteps:=9^7) only [seval,exC,ZhG,h]|simp (maxSteps:=9^7) (disch:=first|with_reducible assumption|omega) only [dxB]|(simp only [kdB];split)|(simp only [kvB];split))
theorem Zdo (a b : Dy) : Nz (mulD a b):=ZoH _ _ _
theorem ZiW {a b : Dy} {K : Nat} (ha : Bd a K) (hb : Bd b K) : Bd (mulD a b) (4 * K):=by
 obtain ⟨a1,a2,a3⟩:=ha
 obtain ⟨b1,b2,b3⟩:=hb
 have hb : blen (a.m * b.m)≤2 * K:=by
  refine Zaf.2 ?_
  rw [show 2 * K = K + K by omega,Nat.pow_add]
  exact Nat.mul_lt_mul_of_lt_of_lt (Zaf.1 a1) (Zaf.1 b1)
 exact ZoD (by omega) (by omega) (by omega)
theorem ZaL {d : Dy} (h : Nz d) (b : Bd d 131072) : mayD d.n (dl d.m) d.e = true:=by
 obtain ⟨b1,b2,b3⟩:=b
 have hm : mayL (dl d.m) = true:=Zak b1
 simp only [mayD,hm,Bool.true_and]
 by_cases h0 : d.m = 0
 ·rw [h.1 h0,Zaj]; rfl
 ·have h1 : ¬ (dl d.m).length = 0:=fun hc => h0 (Zap.1 hc)
  rw [if_neg h1,dg0]
  have h2:=h.2 h0
  simp only [Bool.and_eq_true,decide_eq_true_eq]
  exact ⟨h2,by omega,by omega⟩
theorem ZmT {d : Dy} : sgnD d = 0↔d.m = 0:=by
 unfold sgnD
 by_cases h : d.m = 0
 ·rw [if_pos h]; exact ⟨fun _ => h,fun _ => rfl⟩
 ·rw [if_neg h]
  constructor
  ·intro hc; split at hc <;> omega
  ·intro hc; exact absurd hc h
theorem Zft (J : Al G T g) (F : Fm) : run G T 157 [.int .u8 F.u] = some (.int .u64 (F.nan : Int)):=by
 rw [Zab G T J.F.Zft]
 have h1:=Zhp J F
 have h2:=Zde J F
 cases F
 ·have h4:=ZdZ J .s (n:=false) (x:=255) (w:=4194304) (by decide) (Or.inl (by decide))
  simp only [fldA,Fm.u,Fm.fr,Fm.most,Fm.nan,Fm.inf,Fm.sgn,Fm.sg,Int.cast_ofNat_Int,Nat.reducePow,Nat.reduceMul,Nat.reduceSub,Nat.reduceAdd,Bool.false_eq_true,if_false] at *
  repeat' (first|simp (maxSteps:=9^7) only [seval,exC,Zgi,h1,h2,h4]|simp (maxSteps:=9^7) (disch:=first|with_reducible assumption|omega) only [dxB]|(simp only [kdB];split)|(simp only [kvB];split))
 ·have h4:=ZdZ J .d (n:=false) (x:=2047) (w:=2251799813685248) (by decide) (Or.inl (by decide))
  simp only [fldA,Fm.u,Fm.fr,Fm.most,Fm.nan,Fm.inf,Fm.sgn,Fm.sg,Int.cast_ofNat_Int,Nat.reducePow,Nat.reduceMul,Nat.reduceSub,Nat.reduceAdd,Bool.false_eq_true,if_false] at *
  repeat' (first|simp (maxSteps:=9^7) only [seval,exC,Zgi,h1,h2,h4]|simp (maxSteps:=9^7) (disch:=first|with_reducible assumption|omega) only [dxB]|(simp only [kdB];split)|(simp only [kvB];split))
theorem ZkP (J : Al G T g) (F : Fm) {w : Nat} : run G T 233 [.int .u8 F.u,.int .u64 (w : Int)] = some (.bool (F.ng w)):=by
 rw [Zab G T J.H.ZkP]
 have h1:=Zhi J F
 have h2 : decide ((F.sg : Int)≤(w : Int)) = F.ng w:=by unfold Fm.ng; congr 1; apply propext; omega
 repeat' (first|simp (maxSteps:=9^7) only [seval,exC,ZjY,h1,h2]|simp (maxSteps:=9^7) (disch:=first|with_reducible assumption|omega) only [dxB]|(simp only [kdB];split)|(simp only [kvB];split))
theorem Zjl (J : Al G T g) (F : Fm) {w : Nat} (hw : w < 2 * F.sg) : run G T 230 [.int .u8 F.u,.int .u64 (w : Int)] = some (.bool (decide (F.cls w = 5))):=by
 rw [Zab G T J.H.Zjl]
 have h1:=Zav J F (Zce hw)
 repeat' (first|simp (maxSteps:=9^7) only [seval,exC,ZkE,h1]|simp (maxSteps:=9^7) (disch:=first|with_reducible assumption|omega) only [dxB]|(simp only [kdB];split)|(simp only [kvB];split))
theorem Zlv (J : Al G T g) (F : Fm) {w : Nat} (hw : w < 2 * F.sg) : run G T 231 [.int .u8 F.u,.int .u64 (w : Int)] = some (.bool (decide (F.cls w = 4))):=by
 rw [Zab G T J.H.Zlv]
 have h1:=Zav J F (Zce hw)
 repeat' (first|simp (maxSteps:=9^7) only [seval,exC,Zkg,h1]|simp (maxSteps:=9^7) (disch:=first|with_reducible assumption|omega) only [dxB]|(simp only [kdB];split)|(simp only [kvB];split))
theorem ZlZ (J : Al G T g) (F : Fm) {w : Nat} (hw : w < 2 * F.sg) : run G T 232 [.int .u8 F.u,.int .u64 (w : Int)] = some (.bool (decide (F.cls w = 1))):=by
 rw [Zab G T J.H.ZlZ]
 have h1:=Zav J F (Zce hw)
 repeat' (first|simp (maxSteps:=9^7) only [seval,exC,Zix,h1]|simp (maxSteps:=9^7) (disch:=first|with_reducible assumption|omega) only [dxB]|(simp only [kdB];split)|(simp only [kvB];split))
theorem Zkh (J : Al G T g) (F : Fm) {md : Int} : run G T 234 [.int .u8 F.u,.int .u8 md] = some (.int .u64 ((F.sgn (decide (md = 5)) : Nat) : Int)):=by
 rw [Zab G T J.H.Zkh]
 have h1:=Zbi J F (n:=decide (md = 5)) (w:=0)
 rw [Nat.zero_mod,Nat.zero_add,cast0] at h1
 repeat' (first|simp (maxSteps:=9^7) only [seval,exC,ZeF,h1]|simp (maxSteps:=9^7) (disch:=first|with_reducible assumption|omega) only [dxB]|(simp only [kdB];split)|(simp only [kvB];split))
theorem ZES (J : Al G T g) (F : Fm) {md : Int} (hm : 1≤md∧md≤5) {z : Bool} {d : Dy} (hz : Nz d) (hb : Bd d 131072) :
  run G T 16 [DyA z d] = some (.int .i64 (sgnD d)) ∧
  ((sgnD d = 0∧run G T 234 [.int .u8 F.u,.int .u8 md] = some (.int .u64 ((sumW F md d).1 : Int))∧(sumW F md d).2 = 0) ∨
   (¬ sgnD d = 0∧run G T 12 [.int .u8 F.u,.int .u8 md,DyA z d] = some (.tup [.int .u64 ((sumW F md d).1 : Int),.int .u8 ((sumW F md d).2 : Int)]))):=by
 refine ⟨ZaY J,?_⟩
 by_cases h0 : d.m = 0
 ·left
  have h1:=Zkh J F (md:=md)
  unfold sumW
  rw [if_pos h0]
  exact ⟨ZmT.2 h0,h1,rfl⟩
 ·right
  have h1:=ZcE J F hm (z:=z) hz (hb.mono (by decide))
  unfold sumW
  rw [if_neg h0]
  exact ⟨fun h => h0 (ZmT.1 h),h1⟩
theorem ZxS (F : Fm) (md : Int) {a b : Nat} (ha : a < 2 * F.sg) (hb : b < 2 * F.sg) :
  (F.cls a = 5∧addW F md a b = (F.nan,0))∨(F.cls a≠5∧F.cls b = 5∧addW F md a b = (F.nan,0)) ∨
  (F.cls a = 4∧F.cls b = 4∧a = b∧addW F md a b = (a,0))∨(F.cls a = 4∧F.cls b = 4∧a≠b∧addW F md a b = (F.nan,1)) ∨
  (F.cls a = 4∧F.cls b≠4∧F.cls b≠5∧addW F md a b = (a,0))∨(F.cls a≠4∧F.cls a≠5∧F.cls b = 4∧addW F md a b = (b,0)) ∨
  (F.fin a∧F.fin b∧F.cls a = 1∧a = b∧addW F md a b = (a,0))∨(F.fin a∧F.fin b∧(F.cls a≠1∨a≠b)∧addW F md a b = sumW F md (addD (F.vl a) (F.vl b))):=by
 unfold addW addP
 have ra:=ZaN F a
 have rb:=ZaN F b
 by_cases a5 : F.cls a = 5
 ·left; exact ⟨a5,if_pos (Or.inl a5)⟩
 ·right
  by_cases b5 : F.cls b = 5
  ·left; exact ⟨a5,b5,if_pos (Or.inr b5)⟩
  ·right
   rw [if_neg (by omega)]
   by_cases a4 : F.cls a = 4
   ·have ea:=Zpi ha a4
    by_cases b4 : F.cls b = 4
    ·have eb:=Zpi hb b4
     by_cases hn : F.ng a = F.ng b
     ·left
      refine ⟨a4,b4,by rw [ea,eb,hn],?_⟩
      rw [if_neg (fun h => h.2.2 hn),if_pos a4,← ea]
     ·right; left
      refine ⟨a4,b4,?_,if_pos ⟨a4,b4,hn⟩⟩
      intro hc; exact hn (by rw [hc])
    ·right; right; left
     refine ⟨a4,b4,b5,?_⟩
     rw [if_neg (fun h => b4 h.2.1),if_pos a4,← ea]
   ·by_cases b4 : F.cls b = 4
    ·right; right; right; left
     refine ⟨a4,a5,b4,?_⟩
     rw [if_neg (fun h => a4 h.1),if_neg a4,if_pos b4,← Zpi hb b4]
    ·right; right; right; right
     have fa : F.fin a:=Zag.2 (by omega)
     have fb : F.fin b:=Zag.2 (by omega)
     rw [if_neg (fun h => a4 h.1),if_neg a4,if_neg b4]
     by_cases h1 : F.cls a = 1∧a = b
     ·left
      refine ⟨fa,fb,h1.1,h1.2,?_⟩
      rw [if_pos ⟨h1.1,by rw [← h1.2]; exact h1.1,by rw [h1.2]⟩,← (Zhl ha h1.1).1]
     ·right
      refine ⟨fa,fb,?_,?_⟩
      ·by_cases q : F.cls a = 1
       ·exact Or.inr (fun hc => h1 ⟨q,hc⟩)
       ·exact Or.inl q
      ·rw [if_neg]
       rintro ⟨q1,q2,q3⟩
       exact h1 ⟨q1,by rw [(Zhl ha q1).1,(Zhl hb q2).1,q3]⟩
theorem Zbm {F : Fm} {w : Nat} (h : F.fin w) : F.vl w = F.val w:=if_pos h
theorem Zdx (J : Al G T g) (F : Fm) {md : Int} (hm : 1≤md∧md≤5) {a b : Nat} (ha : a < 2 * F.sg) (hb : b < 2 * F.sg) :
  run G T 219 [.int .u8 F.u,.int .u8 md,.int .u64 (a : Int),.int .u64 (b : Int)] = some (.tup [.int .u64 ((addW F md a b).1 : Int),.int .u8 ((addW F md a b).2 : Int)]):=by
 rw [Zab G T J.H.Zdx]
 have na:=Zjl J F ha
 have nb:=Zjl J F hb
 have ia:=Zlv J F ha
 have ib:=Zlv J F hb
 have za:=ZlZ J F ha
 have nn:=Zft J F
 have ra:=ZaN F a
 have rb:=ZaN F b
 rcases ZxS F md ha hb with ⟨h1,W⟩ | ⟨h1,h2,W⟩ | ⟨h1,h2,h3,W⟩ | ⟨h1,h2,h3,W⟩ | ⟨h1,h2,h3,W⟩ | ⟨h1,h2,h3,W⟩ | ⟨h1,h2,h3,h4,W⟩ | ⟨h1,h2,h3,W⟩
 ·rw [W]
  rw [decide_eq_true h1] at na
  repeat' (first|simp (maxSteps:=9^7) only [seval,exC,ZaH,na,nn]|simp (maxSteps:=9^7) (disch:=first|with_reducible assumption|omega) only [dxB]|(simp only [kdB];split)|(simp only [kvB];split))
  all_goals rfl
 ·rw [W]
  rw [decide_eq_false h1] at na
  rw [decide_eq_true h2] at nb
  repeat' (first|simp (maxSteps:=9^7) only [seval,exC,ZaH,na,nb,nn]|simp (maxSteps:=9^7) (disch:=first|with_reducible assumption|omega) only [dxB]|(simp only [kdB];split)|(simp only [kvB];split))
  all_goals rfl
 ·rw [W]
  rw [decide_eq_false (by omega)] at na nb
  rw [decide_eq_true h1] at ia
  rw [decide_eq_true h2] at ib
  subst h3
  repeat' (first|simp (maxSteps:=9^7) only [seval,exC,ZaH,na,nb,ia,ib]|simp (maxSteps:=9^7) (disch:=first|with_reducible assumption|omega) only [dxB]|(simp only [kdB];split)|(simp only [kvB];split))
  all_goals rfl
 ·rw [W]
  rw [decide_eq_false (by omega)] at na nb
  rw [decide_eq_true h1] at ia
  rw [decide_eq_true h2] at ib
  have hab : ¬ (a : Int) = (b : Int):=by omega
  repeat' (first|simp (maxSteps:=9^7) only [seval,exC,ZaH,na,nb,ia,ib,hab,nn]|simp (maxSteps:=9^7) (disch:=first|with_reducible assumption|omega) only [dxB]|(simp only [kdB];split)|(simp only [kvB];split))
  all_goals rfl
 ·rw [W]
  rw [decide_eq_false (by omega)] at na nb
  rw [decide_eq_true h1] at ia
  rw [decide_eq_false h2] at ib
  repeat' (first|simp (maxSteps:=9^7) only [seval,exC,ZaH,na,nb,ia,ib]|simp (maxSteps:=9^7) (disch:=first|with_reducible assumption|omega) only [dxB]|(simp only [kdB];split)|(simp only [kvB];split))
  all_goals rfl
 ·rw [W]
  rw [decide_eq_false (by omega)] at na nb
  rw [decide_eq_false h1] at ia
  rw [decide_eq_true h3] at ib
  repeat' (first|simp (maxSteps:=9^7) only [seval,exC,ZaH,na,nb,ia,ib]|simp (maxSteps:=9^7) (disch:=first|with_reducible assumption|omega) only [dxB]|(simp only [kdB];split)|(simp only [kvB];split))
  all_goals rfl
 ·rw [W]
  have q1:=Zag.1 h1
  have q2:=Zag.1 h2
  rw [decide_eq_false (by omega)] at na nb ia ib
  rw [decide_eq_true h3] at za
  subst h4
  repeat' (first|simp (maxSteps:=9^7) only [seval,exC,ZaH,na,nb,ia,ib,za]|simp (maxSteps:=9^7) (disch:=first|with_reducible assumption|omega) only [dxB]|(simp only [kdB];split)|(simp only [kvB];split))
  all_goals rfl
 ·rw [W]
  have q1:=Zag.1 h1
  have q2:=Zag.1 h2
  rw [decide_eq_false (by omega)] at na nb ia ib
  obtain ⟨z1,v1⟩:=Zbo J F (Zce ha) h1
  obtain ⟨z2,v2⟩:=Zbo J F (Zce hb) h2
  rw [← Zbm h1] at v1
  rw [← Zbm h2] at v2
  have b1:=ZeZ F a
  have b2:=ZeZ F b
  obtain ⟨z3,s1⟩:=Zex J (z:=z1) (y:=z2) (b1.mono (by decide)) (b2.mono (by decide))
  obtain ⟨g1,g2⟩:=ZES J F hm (z:=z3) (Zgz (ZbJ F a) (ZbJ F b)) ((Zml b1 b2).mono (by decide))
  generalize sumW F md (addD (F.vl a) (F.vl b)) = S at *
  generalize addD (F.vl a) (F.vl b) = s at *
  generalize F.vl a = va at *
  generalize F.vl b = vb at *
  have hza : (F.cls a = 1∧¬ (a : Int) = (b : Int))∨¬ F.cls a = 1:=by omega
  clear b1 b2 W ra rb q1 q2 h3 nn
  simp only [DyA,A3] at *
  rcases hza with ⟨k1,k2⟩ | k1
  ·rw [decide_eq_true k1] at za
   rcases g2 with ⟨g3,g4,g5⟩ | ⟨g3,g4⟩
   ·rw [g5,cast0]
    repeat' (first|simp (maxSteps:=9^7) only [seval,exC,ZaH,na,nb,ia,ib,za,k2,v1,v2,s1,g1,g3,g4]|simp (maxSteps:=9^7) (disch:=first|with_reducible assumption|omega) only [dxB]|(simp only [kdB];split)|(simp only [kvB];split))
    all_goals try rfl
   ·repeat' (first|simp (maxSteps:=9^7) only [seval,exC,ZaH,na,nb,ia,ib,za,k2,v1,v2,s1,g1,g3,g4]|simp (maxSteps:=9^7) (disch:=first|with_reducible assumption|omega) only [dxB]|(simp only [kdB];split)|(simp only [kvB];split))
    all_goals try rfl
  ·rw [decide_eq_false k1] at za
   rcases g2 with ⟨g3,g4,g5⟩ | ⟨g3,g4⟩
   ·rw [g5,cast0]
    repeat' (first|simp (maxSteps:=9^7) only [seval,exC,ZaH,na,nb,ia,ib,za,v1,v2,s1,g1,g3,g4]|simp (maxSteps:=9^7) (disch:=first|with_reducible assumption|omega) only [dxB]|(simp only [kdB];split)|(simp only [kvB];split))
    all_goals try rfl
   ·repeat' (first|simp (maxSteps:=9^7) only [seval,exC,ZaH,na,nb,ia,ib,za,v1,v2,s1,g1,g3,g4]|simp (maxSteps:=9^7) (disch:=first|with_reducible assumption|omega) only [dxB]|(simp only [kdB];split)|(simp only [kvB];split))
    all_goals try rfl
theorem ZpR (J : Al G T g) (F : Fm) {md : Int} (hm : 1≤md∧md≤5) {a b : Nat} (ha : a < 2 * F.sg) (hb : b < 2 * F.sg) :
  run G T 220 [.int .u8 F.u,.int .u8 md,.int .u64 (a : Int),.int .u64 (b : Int)] = some (.tup [.int .u64 ((subW F md a b).1 : Int),.int .u8 ((subW F md a b).2 : Int)]):=by
 rw [Zab G T J.H.ZpR]
 have nb:=Zjl J F hb
 have gb:=ZkP J F (w:=b)
 obtain ⟨f1,f2,f3,f4⟩:=Zoi hb
 have sd:=Zbi J F (n:=!F.ng b) (w:=b)
 rw [show b % F.sg + F.sgn (!F.ng b) = F.flip b from rfl] at sd
 by_cases h1 : F.cls b = 5
 ·rw [decide_eq_true h1] at nb
  have ad:=Zdx J F hm ha hb
  have W : subW F md a b = addW F md a b:=by
   unfold subW addW addP; rw [if_pos (Or.inr h1),if_pos (Or.inr h1)]
  rw [W]
  repeat' (first|simp (maxSteps:=9^7) only [seval,exC,Zhu,nb,ad]|simp (maxSteps:=9^7) (disch:=first|with_reducible assumption|omega) only [dxB]|(simp only [kdB];split)|(simp only [kvB];split))
  all_goals try rfl
 ·rw [decide_eq_false h1] at nb
  have ad:=Zdx J F hm ha f1
  rw [ZsJ F md hb]
  generalize addW F md a (F.flip b) = W at *
  generalize F.flip b = c at *
  cases hn : F.ng b <;> (
   rw [hn] at gb sd
   simp only [Bool.not_true,Bool.not_false] at sd
   repeat' (first|simp (maxSteps:=9^7) only [seval,exC,Zhu,nb,gb,sd,ad]|simp (maxSteps:=9^7) (disch:=first|with_reducible assumption|omega) only [dxB]|(simp only [kdB];split)|(simp only [kvB];split))
   all_goals try rfl)
structure KindR (G : Nat→Option (List AV)) (T : Tbl) (F : Fm) (w : Nat) (n i z : Bool) : Prop where
 nan : run G T 230 [.int .u8 F.u,.int .u64 (w : Int)] = some (.bool n)
 inf : run G T 231 [.int .u8 F.u,.int .u64 (w : Int)] = some (.bool i)
 zer : run G T 232 [.int .u8 F.u,.int .u64 (w : Int)] = some (.bool z)
theorem ZqW (J : Al G T g) (F : Fm) {w : Nat} (hw : w < 2 * F.sg) :
  (F.cls w = 5∧KindR G T F w true false false)∨(F.cls w = 4∧KindR G T F w false true false)∨(F.cls w = 1∧KindR G T F w false false true)∨((F.fin w∧F.cls w≠1∧F.cls w≠4∧F.cls w≠5)∧KindR G T F w false false false):=by
 have h1:=Zjl J F hw
 have h2:=Zlv J F hw
 have h3:=ZlZ J F hw
 have r:=ZaN F w
 by_cases a : F.cls w = 5
 ·left; rw [decide_eq_true a] at h1; rw [decide_eq_false (by omega)] at h2 h3; exact ⟨a,h1,h2,h3⟩
 ·right
  by_cases b : F.cls w = 4
  ·left; rw [decide_eq_true b] at h2; rw [decide_eq_false (by omega)] at h1 h3; exact ⟨b,h1,h2,h3⟩
  ·right
   by_cases c : F.cls w = 1
   ·left; rw [decide_eq_true c] at h3; rw [decide_eq_false (by omega)] at h1 h2; exact ⟨c,h1,h2,h3⟩
   ·right; rw [decide_eq_false (by omega)] at h1 h2 h3; exact ⟨⟨Zag.2 (by omega),c,b,a⟩,h1,h2,h3⟩
set_option maxHeartbeats 16000000 in
theorem Zem (J : Al G T g) (F : Fm) {md : Int} (hm : 1≤md∧md≤5) {a b : Nat} (ha : a < 2 * F.sg) (hb : b < 2 * F.sg) :
  run G T 222 [.int .u8 F.u,.int .u8 md,.int .u64 (a : Int),.int .u64 (b : Int)] = some (.tup [.int .u64 ((mulW2 F md a b).1 : Int),.int .u8 ((mulW2 F md a b).2 : Int)]):=by
 rw [Zab G T J.H.Zem]
 have nn:=Zft J F
 have ga:=ZkP J F (w:=a)
 have gb:=ZkP J F (w:=b)
 have inf:=ZhA J F (n:=F.ng a != F.ng b)
 have sg:=Zbi J F (n:=F.ng a != F.ng b) (w:=0)
 rw [Nat.zero_mod,Nat.zero_add,cast0] at sg
 unfold mulW2 mulP
 rcases ZqW J F ha with ⟨ka,na,ia,za⟩ | ⟨ka,na,ia,za⟩ | ⟨ka,na,ia,za⟩ | ⟨⟨fa,ka,ka2,ka3⟩,na,ia,za⟩
 ·rw [if_pos (Or.inl ka)]
  repeat' (first|simp (maxSteps:=9^7) only [seval,exC,Zci,na,nn]|simp (maxSteps:=9^7) (disch:=first|with_reducible assumption|omega) only [dxB]|(simp only [kdB];split)|(simp only [kvB];split))
  all_goals rfl
 all_goals rcases ZqW J F hb with ⟨kb,nb,ib,zb⟩ | ⟨kb,nb,ib,zb⟩ | ⟨kb,nb,ib,zb⟩ | ⟨⟨fb,kb,kb2,kb3⟩,nb,ib,zb⟩
 all_goals try (
  rw [if_pos (Or.inr kb)]
  repeat' (first|simp (maxSteps:=9^7) only [seval,exC,Zci,na,nb,nn]|simp (maxSteps:=9^7) (disch:=first|with_reducible assumption|omega) only [dxB]|(simp only [kdB];split)|(simp only [kvB];split))
  all_goals rfl
  done)
 all_goals rw [if_neg (by omega)]
 all_goals try (
  rw [if_pos (by omega)]
  repeat' (first|simp (maxSteps:=9^7) only [seval,exC,Zci,na,nb,ia,za,ib,zb,nn]|simp (maxSteps:=9^7) (disch:=first|with_reducible assumption|omega) only [dxB]|(simp only [kdB];split)|(simp only [kvB];split))
  all_goals rfl
  done)
 all_goals try rw [if_neg (show ¬ ((F.cls a = 4∨F.cls b = 4)∧(F.cls a = 1∨F.cls b = 1)) by omega)]
 all_goals try (
  rw [if_pos (show F.cls a = 4∨F.cls b = 4 by omega)]
  generalize F.ng a = x at *
  generalize F.ng b = y at *
  cases x <;> cases y <;> (
   simp only [bne_self_eq_false,Bool.false_bne,Bool.true_bne,Bool.not_true,Bool.not_false,Bool.bne_true,Bool.bne_false] at inf ⊢
   repeat' (first|simp (maxSteps:=9^7) only [seval,exC,Zci,na,nb,ia,za,ib,zb,ga,gb,inf]|simp (maxSteps:=9^7) (disch:=first|with_reducible assumption|omega) only [dxB]|(simp only [kdB];split)|(simp only [kvB];split))
   all_goals rfl)
  done)
 all_goals try rw [if_neg (show ¬ (F.cls a = 4∨F.cls b = 4) by omega)]
 all_goals try (
  rw [if_pos (show F.cls a = 1∨F.cls b = 1 by omega)]
  generalize F.ng a = x at *
  generalize F.ng b = y at *
  cases x <;> cases y <;> (
   simp only [bne_self_eq_false,Bool.false_bne,Bool.true_bne,Bool.not_true,Bool.not_false,Bool.bne_true,Bool.bne_false] at sg ⊢
   repeat' (first|simp (maxSteps:=9^7) only [seval,exC,Zci,na,nb,ia,za,ib,zb,ga,gb,sg]|simp (maxSteps:=9^7) (disch:=first|with_reducible assumption|omega) only [dxB]|(simp only [kdB];split)|(simp only [kvB];split))
   all_goals rfl)
  done)
 rw [if_neg (show ¬ (F.cls a = 1∨F.cls b = 1) by omega)]
 obtain ⟨z1,v1⟩:=Zbo J F (Zce ha) fa
 obtain ⟨z2,v2⟩:=Zbo J F (Zce hb) fb
 have m1:=ZuM ha ka fa
 have m2:=ZuM hb kb fb
 rw [← Zbm fa] at v1 m1
 rw [← Zbm fb] at v2 m2
 have b1:=ZeZ F a
 have b2:=ZeZ F b
 obtain ⟨p1,p2,p3⟩:=b1
 obtain ⟨q1,q2,q3⟩:=b2
 have hl1:=Zaa (F.vl a).m
 have hl2:=Zaa (F.vl b).m
 obtain ⟨z3,s1⟩:=Zjj J (z:=z1) (y:=z2) (a:=F.vl a) (b:=F.vl b) (by omega) (by omega) (by omega) (by omega)
 have r1:=ZcE J F hm (z:=z3) (Zdo (F.vl a) (F.vl b)) ((ZiW (ZeZ F a) (ZeZ F b)).mono (by decide))
 have hne : (F.vl a).m * (F.vl b).m≠0:=by
  intro hc
  rcases Nat.mul_eq_zero.1 hc with h | h
  ·exact m1 h
  ·exact m2 h
 have hm0 : (mulD (F.vl a) (F.vl b)).m≠0:=Zot hne _
 unfold sumW
 rw [if_neg hm0]
 rw [show mkD ((F.vl a).n != (F.vl b).n) ((F.vl a).m * (F.vl b).m) ((F.vl a).e + (F.vl b).e) = mulD (F.vl a) (F.vl b) from rfl] at s1
 generalize rndW F md (mulD (F.vl a) (F.vl b)) = S at *
 generalize mulD (F.vl a) (F.vl b) = s at *
 clear p1 p2 p3 q1 q2 q3 hl1 hl2 m1 m2 hne hm0
 generalize F.vl a = va at *
 generalize F.vl b = vb at *
 simp only [DyA,A3] at *
 repeat' (first|simp (maxSteps:=9^7) only [seval,exC,Zci,na,nb,ia,za,ib,zb,ga,gb,v1,v2,s1,r1]|simp (maxSteps:=9^7) (disch:=first|with_reducible assumption|omega) only [dxB]|(simp only [kdB];split)|(simp only [kvB];split))
 all_goals try rfl
def apB (bs : List Blk) (f : List Nat) (b n : Nat) (o : Option Blk) (w : Option (List AV)) : Option (AV × Heap) :=
 match w with
 | some nw => match o with
  | some k => if k.dead = false∧f.contains b = false∧n * 5≤k.cs.length∧(n + 1) * 48≤boundApp then some (.own bs.length 0 (n + 1) 5,⟨bs.set b ⟨k.cs,true⟩ ++ [⟨k.cs.take (n * 5) ++ nw,false⟩],f⟩) else none
  | none => none
 | none => none
theorem ap_x (bs : List Blk) (f : List Nat) (b n c : Nat) : appV ⟨bs,f⟩ 5 48 (.own b 0 n 5) (.own c 0 1 5) = apB bs f b n (bs[b]?) (subB (bs[c]?) 0 5):=by
 have h1:=ZiH bs f c 0 5
 simp only [appV,sliceCells,if_true,Nat.one_mul,h1]
 cases subB (bs[c]?) 0 5 with
 | none => rfl
 | some nw =>
  simp only [Option.map_some,apB]
  cases bs[b]? with
  | none => rfl
  | some k => simp
theorem ap_0 (bs : List Blk) (b : Nat) (cs nw : List AV) : apB bs [] b 0 (some ⟨cs,false⟩) (some nw) = some (.own bs.length 0 1 5,⟨bs.set b ⟨cs,true⟩ ++ [⟨nw,false⟩],[]⟩):=by
 simp [apB,boundApp]
theorem ap_1 (bs : List Blk) (b : Nat) (x1 x2 x3 x4 x5 : AV) (nw : List AV) : apB bs [] b 1 (some ⟨[x1,x2,x3,x4,x5],false⟩) (some nw) = some (.own bs.length 0 2 5,⟨bs.set b ⟨[x1,x2,x3,x4,x5],true⟩ ++ [⟨x1 :: x2 :: x3 :: x4 :: x5 :: nw,false⟩],[]⟩):=by
 simp [apB,boundApp]
theorem Zmm (F : CallF) (d : Option Nat) (os : List IOper) (e : Env) (h : Heap) (n : Nat) (zero : List AV) (ps : List (Nat × Nat × IOpd)) : evOps G F (⟨d,.bslice n 5 zero ps,none⟩ :: os) e h =
  kBs G F (fillA (repA n zero) (ps.map fun (o,n,x) => (o,n,opd e x))) (.own h.b.length 0 n 5) d os e h:=Zgd G F d os e h n 5 zero ps
theorem ZFd (e : Env) (h : Heap) : evL G T ZiL e h = kS G T (evL G T ZiI (keepE [0,10,31,32,33] e) h) ZiL:=Zae G T rfl e h
theorem iw20 (x y : AV) (k : IntKind) : iaddrV 1 (.imm 2 [x,y]) (.int k 0) = some (.iptr [x,y] 0):=rfl
theorem iw21 (x y : AV) (k : IntKind) : iaddrV 1 (.imm 2 [x,y]) (.int k 1) = some (.iptr [x,y] 1):=rfl
theorem rp_0 (h : Mem) (x : AV) (l : List AV) : rdAt G h 1 (.iptr (x :: l) 0) = some [x]:=by simp [rdAt]
theorem rp_1 (h : Mem) (x y : AV) (l : List AV) : rdAt G h 1 (.iptr (x :: y :: l) 1) = some [y]:=by simp [rdAt]
theorem rp_2 (h : Mem) (x y z : AV) (l : List AV) : rdAt G h 1 (.iptr (x :: y :: z :: l) 2) = some [z]:=by simp [rdAt]
theorem ZDN (z : List AV) : repA 3 z = z ++ (z ++ z):=by simp [repA]
theorem wr_1 : IntKind.i64.wrap (0 + 1) = 1:=rfl
theorem wr_2 : IntKind.i64.wrap (1 + 1) = 2:=rfl
theorem wr_3 : IntKind.i64.wrap (2 + 1) = 3:=rfl
theorem wr1 : IntKind.i64.wrap 1 = 1:=rfl
theorem wr2 : IntKind.i64.wrap 2 = 2:=rfl
theorem wr3 : IntKind.i64.wrap 3 = 3:=rfl
def ptC (F : Fm) (w : Nat) (z : Bool) : List AV:=[.int .u8 (F.cls w),.bool (F.ng w),.bool (F.vl w).n,D z (dl (F.vl w).m),.int .i64 (F.vl w).e]
set_option maxHeartbeats 8000000 in
theorem ZqR (J : Al G T g) (F : Fm) {md : Int} (hm : 1≤md∧md≤5) {a : Nat} {b : Nat} (ha : a < 2 * F.sg) (hb : b < 2 * F.sg) :
  ∃ z1 z2,run G T 176 [.int .u8 F.u,.int .u8 md,.imm 2 [.int .u64 (a : Int),.int .u64 (b : Int)]] = some (.tup [.imm 2 (ptC F a z1 ++ ptC F b z2),.int .i64 0]):=by
 have o1:=Zec J F hm (neg:=false)
 have s1:=Zfm J F ha
 have c1:=Zbl J F ha
 obtain ⟨z1,k1,v1⟩:=Zcs J F ha
 have s2:=Zfm J F hb
 have c2:=Zbl J F hb
 obtain ⟨z2,k2,v2⟩:=Zcs J F hb
 refine ⟨z1,z2,?_⟩
 rw [Zab G T J.U.soft_open]
 unfold ptC
 generalize F.cls a = ca' at *
 generalize F.ng a = na' at *
 generalize F.ex a = xa' at *
 generalize F.fc a = ya' at *
 generalize F.vl a = va' at *
 generalize F.cls b = cb' at *
 generalize F.ng b = nb' at *
 generalize F.ex b = xb' at *
 generalize F.fc b = yb' at *
 generalize F.vl b = vb' at *
 simp only [fldA,DyA,A3,List.cons_append,List.nil_append] at *
 repeat' (first|simp (maxSteps:=9^7) only [seval,exC,Zkf,Zmm,o1,s1,c1,v1,s2,c2,v2,ZFd,ZiI,iw20,iw21,rp_0,rp_1,ap_0,ap_1,wr_1,wr1,wr_2,wr2,ZeK,ap_x,List.set_cons_zero,List.set_cons_succ,List.cons_append,List.nil_append ]|simp (maxSteps:=9^7) (disch:=first|with_reducible assumption|omega) only [dxB,ZAn]|(simp only [kdB];split)|(simp only [kvB];split))
end Go.Cv
namespace Go.Cv
variable {G : Nat→Option (List AV)} {T : Tbl} {g : Nat}
theorem Zuo (e : Env) (h : Heap) : evL G T Zkm e h = kS G T (evL G T Zey (keepE [0,7,8,9] e) h) Zkm:=Zae G T rfl e h
section
variable (a1 a2 a3 a4 a5 b1 b2 b3 b4 b5 c1 c2 c3 c4 c5 : AV) (k : IntKind)
theorem Zss : iaddrV 5 (.imm 2 [a1,a2,a3,a4,a5,b1,b2,b3,b4,b5]) (.int k 0) = some (.iptr [a1,a2,a3,a4,a5,b1,b2,b3,b4,b5] 0):=rfl
theorem ZrQ : iaddrV 5 (.imm 2 [a1,a2,a3,a4,a5,b1,b2,b3,b4,b5]) (.int k 1) = some (.iptr [a1,a2,a3,a4,a5,b1,b2,b3,b4,b5] 5):=rfl
theorem r5_0 (h : Mem) (l : List AV) : rdAt G h 5 (.iptr (a1 :: a2 :: a3 :: a4 :: a5 :: l) 0) = some [a1,a2,a3,a4,a5]:=by simp [rdAt]
theorem r5_5 (h : Mem) (l : List AV) : rdAt G h 5 (.iptr (a1 :: a2 :: a3 :: a4 :: a5 :: b1 :: b2 :: b3 :: b4 :: b5 :: l) 5) = some [b1,b2,b3,b4,b5]:=by simp [rdAt]
end
theorem Zud (J : Al G T g) {k c c' : Int} {n s n' s' z z' : Bool} {l l' : List Nat} {e e' : Int} :
  run G T 178 [.int .u8 k,.imm 2 [.int .u8 c,.bool n,.bool s,D z l,.int .i64 e,.int .u8 c',.bool n',.bool s',D z' l',.int .i64 e']] = some (.bool (decide (c = k∨c' = k))):=by
 rw [Zab G T J.U.soft_has]
 by_cases h1 : c = k
 ·rw [decide_eq_true (Or.inl h1)]
  repeat' (first|simp (maxSteps:=9^7) only [seval,exC,Zhh,Zuo,Zey,Zss,ZrQ,r5_0,r5_5,wr_1,wr1,wr_2,wr2,h1]|simp (maxSteps:=9^7) (disch:=first|with_reducible assumption|omega) only [dxB]|(simp only [kdB];split)|(simp only [kvB];split))
 ·by_cases h2 : c' = k
  ·rw [decide_eq_true (Or.inr h2)]
   repeat' (first|simp (maxSteps:=9^7) only [seval,exC,Zhh,Zuo,Zey,Zss,ZrQ,r5_0,r5_5,wr_1,wr1,wr_2,wr2,h1,h2]|simp (maxSteps:=9^7) (disch:=first|with_reducible assumption|omega) only [dxB]|(simp only [kdB];split)|(simp only [kvB];split))
  ·rw [decide_eq_false (by omega)]
   repeat' (first|simp (maxSteps:=9^7) only [seval,exC,Zhh,Zuo,Zey,Zss,ZrQ,r5_0,r5_5,wr_1,wr1,wr_2,wr2,h1,h2]|simp (maxSteps:=9^7) (disch:=first|with_reducible assumption|omega) only [dxB]|(simp only [kdB];split)|(simp only [kvB];split))
def deskA (F : Fm) (md : Int) : AV:=.agg [.int .u8 F.u,.int .u8 md]
def ptA (c : Int) (n z : Bool) (d : Dy) : AV:=.agg [.int .u8 c,.bool n,.bool d.n,D z (dl d.m),.int .i64 d.e]
theorem ZtO (J : Al G T g) (F : Fm) {md x : Int} : run G T 179 [deskA F md,.int .u8 x] = some (.tup [.int .u64 (F.nan : Int),.int .u8 x,.int .i64 0]):=by
 rw [Zab G T J.U.soft_desk_none]
 have h1:=Zgg J F
 simp only [deskA] at *
 repeat' (first|simp (maxSteps:=9^7) only [seval,exC,ZdC,h1]|simp (maxSteps:=9^7) (disch:=first|with_reducible assumption|omega) only [dxB]|(simp only [kdB];split)|(simp only [kvB];split))
theorem ZvC (J : Al G T g) (F : Fm) {md x : Int} {n : Bool} : run G T 180 [deskA F md,.bool n,.int .u8 x] = some (.tup [.int .u64 ((F.inf n : Nat) : Int),.int .u8 x,.int .i64 0]):=by
 rw [Zab G T J.U.soft_desk_inf]
 have h1:=ZjG J F (n:=n)
 simp only [deskA] at *
 cases n <;> repeat' (first|simp (maxSteps:=9^7) only [seval,exC,Zew,h1]|simp (maxSteps:=9^7) (disch:=first|with_reducible assumption|omega) only [dxB]|(simp only [kdB];split)|(simp only [kvB];split))
theorem Zqr (J : Al G T g) (F : Fm) {md : Int} {n : Bool} : run G T 181 [deskA F md,.bool n] = some (.tup [.int .u64 ((F.sgn n : Nat) : Int),.int .u8 0,.int .i64 0]):=by
 rw [Zab G T J.U.soft_desk_zero]
 have h1:=ZkO J F (n:=n)
 simp only [deskA] at *
 cases n <;> repeat' (first|simp (maxSteps:=9^7) only [seval,exC,ZdB,h1]|simp (maxSteps:=9^7) (disch:=first|with_reducible assumption|omega) only [dxB]|(simp only [kdB];split)|(simp only [kvB];split))
theorem Zvl (J : Al G T g) (F : Fm) {md : Int} (hm : 1≤md∧md≤5) {z : Bool} {d : Dy} (hz : Nz d) (hb : Bd d 131072) :
  run G T 183 [deskA F md,DyA z d] = some (.tup [.int .u64 ((sumW F md d).1 : Int),.int .u8 ((sumW F md d).2 : Int),.int .i64 0]):=by
 rw [Zab G T J.U.soft_desk_sum]
 have hmd:=ZaL hz hb
 have s1:=ZcL J (n:=d.n) (z:=z) (Zaq d.m) (e:=d.e)
 rw [ZgI hmd] at s1
 unfold sumW
 by_cases h0 : d.m = 0
 ·rw [if_pos h0] at s1 ⊢
  have h1:=Zqr J F (md:=md) (n:=decide (md = 5))
  simp only [deskA,DyA,A3] at *
  repeat' (first|simp (maxSteps:=9^7) only [seval,exC,ZcP,s1,h1]|simp (maxSteps:=9^7) (disch:=first|with_reducible assumption|omega) only [dxB]|(simp only [kdB];split)|(simp only [kvB];split))
  all_goals try rfl
 ·rw [if_neg h0] at s1 ⊢
  have h1:=Zht J F hm (z:=z) (d:=d) hmd
  have c1 : ¬ (if d.n = true then (-1 : Int) else 1) = 0:=by split <;> decide
  generalize (if d.n = true then (-1 : Int) else 1) = sg at *
  generalize rndW F md d = S at *
  simp only [deskA,DyA,A3] at *
  repeat' (first|simp (maxSteps:=9^7) only [seval,exC,ZcP,s1,c1,h1]|simp (maxSteps:=9^7) (disch:=first|with_reducible assumption|omega) only [dxB]|(simp only [kdB];split)|(simp only [kvB];split))
  all_goals try rfl
set_option maxHeartbeats 8000000 in
theorem ZBI (J : Al G T g) (F : Fm) {md : Int} (hm : 1≤md∧md≤5) {c c' : Int} {n n' z z' : Bool} {d d' : Dy}
  (hz : Nz d) (hz' : Nz d') (hb : Bd d 16384) (hb' : Bd d' 16384) :
  run G T 177 [deskA F md,ptA c n z d,ptA c' n' z' d'] = some (.tup [.int .u64 ((addP F md c n d c' n' d').1 : Int),.int .u8 ((addP F md c n d c' n' d').2 : Int),.int .i64 0]):=by
 rw [Zab G T J.U.soft_desk_add]
 have h5:=Zud J (k:=5) (c:=c) (c':=c') (n:=n) (s:=d.n) (n':=n') (s':=d'.n) (z:=z) (z':=z') (l:=dl d.m) (l':=dl d'.m) (e:=d.e) (e':=d'.e)
 have nn:=fun x => ZtO J F (md:=md) (x:=x)
 have inf:=fun m => ZvC J F (md:=md) (x:=0) (n:=m)
 have ze:=fun m => Zqr J F (md:=md) (n:=m)
 unfold addP
 by_cases a5 : c = 5∨c' = 5
 ·rw [decide_eq_true a5] at h5
  rw [if_pos a5]
  simp only [deskA,ptA] at *
  repeat' (first|simp (maxSteps:=9^7) only [seval,exC,Zar,Zmm,h5,nn]|simp (maxSteps:=9^7) (disch:=first|with_reducible assumption|omega) only [dxB]|(simp only [kdB];split)|(simp only [kvB];split))
  all_goals try rfl
 ·rw [decide_eq_false a5] at h5
  rw [if_neg a5]
  by_cases a4 : c = 4
  ·by_cases b4 : c' = 4
   ·by_cases hn : n = n'
    ·rw [if_neg (show ¬ (c = 4∧c' = 4∧n≠n') from fun h => h.2.2 hn),if_pos a4]
     have i1:=inf n'
     subst a4 b4 hn
     simp only [deskA,ptA] at *
     cases n <;> (
      repeat' (first|simp (maxSteps:=9^7) only [seval,exC,Zar,Zmm,h5,i1]|simp (maxSteps:=9^7) (disch:=first|with_reducible assumption|omega) only [dxB]|(simp only [kdB];split)|(simp only [kvB];split))
      all_goals try rfl)
    ·rw [if_pos (show c = 4∧c' = 4∧n≠n' from ⟨a4,b4,hn⟩)]
     subst a4 b4
     simp only [deskA,ptA] at *
     cases n <;> cases n' <;> first | exact absurd rfl hn | (
      repeat' (first|simp (maxSteps:=9^7) only [seval,exC,Zar,Zmm,h5,nn]|simp (maxSteps:=9^7) (disch:=first|with_reducible assumption|omega) only [dxB]|(simp only [kdB];split)|(simp only [kvB];split))
      all_goals try rfl)
   ·rw [if_neg (show ¬ (c = 4∧c' = 4∧n≠n') by omega),if_pos a4]
    have i1:=inf n
    subst a4
    simp only [deskA,ptA] at *
    cases n <;> (
     repeat' (first|simp (maxSteps:=9^7) only [seval,exC,Zar,Zmm,h5,b4,i1]|simp (maxSteps:=9^7) (disch:=first|with_reducible assumption|omega) only [dxB]|(simp only [kdB];split)|(simp only [kvB];split))
     all_goals try rfl)
  ·rw [if_neg (show ¬ (c = 4∧c' = 4∧n≠n') by omega),if_neg a4]
   by_cases b4 : c' = 4
   ·rw [if_pos b4]
    have i1:=inf n'
    subst b4
    simp only [deskA,ptA] at *
    cases n' <;> (
     repeat' (first|simp (maxSteps:=9^7) only [seval,exC,Zar,Zmm,h5,a4,i1]|simp (maxSteps:=9^7) (disch:=first|with_reducible assumption|omega) only [dxB]|(simp only [kdB];split)|(simp only [kvB];split))
     all_goals try rfl)
   ·rw [if_neg b4]
    by_cases h1 : c = 1∧c' = 1∧n = n'
    ·rw [if_pos h1]
     have i1:=ze n
     obtain ⟨k1,k2,k3⟩:=h1
     subst k1 k2 k3
     simp only [deskA,ptA] at *
     cases n <;> (
      repeat' (first|simp (maxSteps:=9^7) only [seval,exC,Zar,Zmm,h5,i1]|simp (maxSteps:=9^7) (disch:=first|with_reducible assumption|omega) only [dxB]|(simp only [kdB];split)|(simp only [kvB];split))
      all_goals try rfl)
    ·rw [if_neg h1]
     obtain ⟨z3,s1⟩:=Zni J (z:=z) (y:=z') hb hb' (ZaL hz (hb.mono (by decide))) (ZaL hz' (hb'.mono (by decide)))
     have s2:=Zvl J F hm (z:=z3) (Zgz hz hz') ((Zml hb hb').mono (by decide))
     generalize sumW F md (addD d d') = S at *
     generalize addD d d' = s at *
     have hk : ¬ c = 1∨(c = 1∧¬ c' = 1)∨(c = 1∧c' = 1∧n≠n'):=by
      by_cases q1 : c = 1
      ·by_cases q2 : c' = 1
       ·right; right; exact ⟨q1,q2,fun h => h1 ⟨q1,q2,h⟩⟩
       ·right; left; exact ⟨q1,q2⟩
      ·left; exact q1
     clear h1 hb hb' hz hz' inf ze nn
     simp only [deskA,ptA,DyA,A3] at *
     rcases hk with k1 | ⟨k1,k2⟩ | ⟨k1,k2,k3⟩
     ·repeat' (first|simp (maxSteps:=9^7) only [seval,exC,Zar,Zmm,h5,a4,b4,k1,s1,s2]|simp (maxSteps:=9^7) (disch:=first|with_reducible assumption|omega) only [dxB]|(simp only [kdB];split)|(simp only [kvB];split))
      all_goals try rfl
     ·subst k1
      repeat' (first|simp (maxSteps:=9^7) only [seval,exC,Zar,Zmm,h5,a4,b4,k2,s1,s2]|simp (maxSteps:=9^7) (disch:=first|with_reducible assumption|omega) only [dxB]|(simp only [kdB];split)|(simp only [kvB];split))
      all_goals try rfl
     ·subst k1 k2
      cases n <;> cases n' <;> first | exact absurd rfl k3 | (
       repeat' (first|simp (maxSteps:=9^7) only [seval,exC,Zar,Zmm,h5,s1,s2]|simp (maxSteps:=9^7) (disch:=first|with_reducible assumption|omega) only [dxB]|(simp only [kdB];split)|(simp only [kvB];split))
       all_goals try rfl)
end Go.Cv
namespace Go.Cv
variable {G : Nat→Option (List AV)} {T : Tbl} {g : Nat}
theorem ZgM (cs : List AV) (o b o' : Nat) : apart (.iptr cs o) (.ptr b o') = true:=rfl
theorem ZnB (J : Al G T g) (F : Fm) {md : Int} (hm : 1≤md∧md≤5) {a b : Nat} (ha : a < 2 * F.sg) (hb : b < 2 * F.sg) :
  run G T 164 [.int .u8 F.u,.int .u8 md,.int .u64 (a : Int),.int .u64 (b : Int)] = some (.tup [.int .u64 ((addW F md a b).1 : Int),.int .u8 ((addW F md a b).2 : Int),.int .i64 0]):=by
 rw [Zab G T J.U.ZnB]
 obtain ⟨z1,z2,o1⟩:=ZqR J F hm ha hb
 have s1:=ZBI J F hm (c:=F.cls a) (n:=F.ng a) (z:=z1) (d:=F.vl a) (c':=F.cls b) (n':=F.ng b) (z':=z2) (d':=F.vl b) (ZbJ F a) (ZbJ F b) ((ZeZ F a).mono (by decide)) ((ZeZ F b).mono (by decide))
 unfold addW
 generalize addP F md (F.cls a) (F.ng a) (F.vl a) (F.cls b) (F.ng b) (F.vl b) = S at *
 unfold ptC at o1
 generalize F.cls a = ca at *
 generalize F.ng a = na at *
 generalize F.vl a = va at *
 generalize F.cls b = cb at *
 generalize F.ng b = nb at *
 generalize F.vl b = vb at *
 simp only [deskA,ptA,List.cons_append,List.nil_append] at *
 repeat' (first|simp (maxSteps:=9^7) only [seval,exC,Zmg,o1,Zss,ZrQ,r5_0,r5_5,s1]|simp (maxSteps:=9^7) (disch:=first|with_reducible assumption|omega) only [dxB]|(simp only [kdB];split)|(simp only [kvB];split))
 all_goals try rfl
set_option maxHeartbeats 8000000 in
theorem Znf (J : Al G T g) (F : Fm) {md : Int} (hm : 1≤md∧md≤5) {a b : Nat} (ha : a < 2 * F.sg) (hb : b < 2 * F.sg) :
  run G T 165 [.int .u8 F.u,.int .u8 md,.int .u64 (a : Int),.int .u64 (b : Int)] = some (.tup [.int .u64 ((mulW2 F md a b).1 : Int),.int .u8 ((mulW2 F md a b).2 : Int),.int .i64 0]):=by
 rw [Zab G T J.U.Znf]
 obtain ⟨z1,z2,o1⟩:=ZqR J F hm ha hb
 have hk:=fun k => Zud J (k:=k) (c:=F.cls a) (c':=F.cls b) (n:=F.ng a) (s:=(F.vl a).n) (n':=F.ng b) (s':=(F.vl b).n) (z:=z1) (z':=z2) (l:=dl (F.vl a).m) (l':=dl (F.vl b).m) (e:=(F.vl a).e) (e':=(F.vl b).e)
 have h5:=hk 5
 have h4:=hk 4
 have h1:=hk 1
 have nn:=fun x => ZtO J F (md:=md) (x:=x)
 have inf:=fun x => ZvC J F (md:=md) (x:=x) (n:=F.ng a != F.ng b)
 have ze:=Zqr J F (md:=md) (n:=F.ng a != F.ng b)
 have b1:=ZeZ F a
 have b2:=ZeZ F b
 obtain ⟨z3,m1⟩:=ZlE J (z:=z1) (y:=z2) (b1.mono (by decide)) (b2.mono (by decide)) (ZaL (ZbJ F a) (b1.mono (by decide))) (ZaL (ZbJ F b) (b2.mono (by decide)))
 have s1:=Zvl J F hm (z:=z3) (Zdo (F.vl a) (F.vl b)) ((ZiW b1 b2).mono (by decide))
 unfold mulW2 mulP
 unfold ptC at o1
 generalize sumW F md (mulD (F.vl a) (F.vl b)) = S at *
 generalize mulD (F.vl a) (F.vl b) = s at *
 clear b1 b2 hk
 generalize F.cls a = ca at *
 generalize F.ng a = na at *
 generalize F.vl a = va at *
 generalize F.cls b = cb at *
 generalize F.ng b = nb at *
 generalize F.vl b = vb at *
 simp only [deskA,DyA,A3,List.cons_append,List.nil_append] at *
 have hne : (na != nb) = !decide (na = nb):=by cases na <;> cases nb <;> rfl
 rw [hne] at inf ze ⊢
 by_cases q5 : ca = 5∨cb = 5
 ·rw [decide_eq_true q5] at h5
  rw [if_pos q5]
  repeat' (first|simp (maxSteps:=9^7) only [seval,exC,ZdW,ZgM,o1,Zss,ZrQ,r5_0,r5_5,h5,nn]|simp (maxSteps:=9^7) (disch:=first|with_reducible assumption|omega) only [dxB]|(simp only [kdB];split)|(simp only [kvB];split))
  all_goals try rfl
 ·rw [decide_eq_false q5] at h5
  rw [if_neg q5]
  by_cases q4 : ca = 4∨cb = 4
  ·rw [decide_eq_true q4] at h4
   by_cases q1 : ca = 1∨cb = 1
   ·rw [decide_eq_true q1] at h1
    rw [if_pos (show (ca = 4∨cb = 4)∧(ca = 1∨cb = 1) from ⟨q4,q1⟩)]
    repeat' (first|simp (maxSteps:=9^7) only [seval,exC,ZdW,ZgM,o1,Zss,ZrQ,r5_0,r5_5,h5,h4,h1,nn]|simp (maxSteps:=9^7) (disch:=first|with_reducible assumption|omega) only [dxB]|(simp only [kdB];split)|(simp only [kvB];split))
    all_goals try rfl
   ·rw [decide_eq_false q1] at h1
    rw [if_neg (show ¬ ((ca = 4∨cb = 4)∧(ca = 1∨cb = 1)) from fun h => q1 h.2),if_pos q4]
    repeat' (first|simp (maxSteps:=9^7) only [seval,exC,ZdW,ZgM,o1,Zss,ZrQ,r5_0,r5_5,h5,h4,h1,inf]|simp (maxSteps:=9^7) (disch:=first|with_reducible assumption|omega) only [dxB]|(simp only [kdB];split)|(simp only [kvB];split))
    all_goals try rfl
  ·rw [decide_eq_false q4] at h4
   rw [if_neg (show ¬ ((ca = 4∨cb = 4)∧(ca = 1∨cb = 1)) from fun h => q4 h.1),if_neg q4]
   by_cases q1 : ca = 1∨cb = 1
   ·rw [decide_eq_true q1] at h1
    rw [if_pos q1]
    repeat' (first|simp (maxSteps:=9^7) only [seval,exC,ZdW,ZgM,o1,Zss,ZrQ,r5_0,r5_5,h5,h4,h1,ze]|simp (maxSteps:=9^7) (disch:=first|with_reducible assumption|omega) only [dxB]|(simp only [kdB];split)|(simp only [kvB];split))
    all_goals try rfl
   ·rw [decide_eq_false q1] at h1
    rw [if_neg q1]
    repeat' (first|simp (maxSteps:=9^7) only [seval,exC,ZdW,ZgM,o1,Zss,ZrQ,r5_0,r5_5,h5,h4,h1,m1,s1]|simp (maxSteps:=9^7) (disch:=first|with_reducible assumption|omega) only [dxB]|(simp only [kdB];split)|(simp only [kvB];split))
    all_goals try rfl
end Go.Cv
namespace Go.Cv
variable {G : Nat→Option (List AV)} {T : Tbl} {g : Nat}
section
variable {f md a b c e : Int}
end
end Go.Cv
namespace Go.Cv
variable {G : Nat→Option (List AV)} {T : Tbl} {g : Nat}
def zA (a b : Nat) : AV:=.agg [.int .u64 (a : Int),.int .u64 (b : Int)]
def zcl (c c' : Int) : Int:=if c = 4∨c' = 4 then 3 else if c = 5∨c' = 5 then 4 else if c = 1∧c' = 1 then 1 else 2
def sqD (F : Fm) (a b : Nat) : Dy:=addD (mulD (F.vl a) (F.vl a)) (mulD (F.vl b) (F.vl b))
theorem Zmp (J : Al G T g) (F : Fm) {w : Nat} (hw : w < 18446744073709551616) (hb : ¬ w < 2 * F.sg) : run G T 193 [.int .u8 F.u,.int .u64 (w : Int)] = some (.tup [.int .u8 0,.int .i64 6]):=by
 rw [Zab G T J.U.Zbl]
 have h1:=Zhg J F hw
 rw [if_neg hb] at h1
 simp only [shA] at *
 repeat' (first|simp (maxSteps:=9^7) only [seval,exC,ZfW,h1]|simp (maxSteps:=9^7) (disch:=first|with_reducible assumption|omega) only [dxB]|(simp only [kdB];split)|(simp only [kvB];split))
theorem ZdT (J : Al G T g) (F : Fm) {a b : Nat} (ha : a < 2 * F.sg) (hb : b < 2 * F.sg) : run G T 189 [.int .u8 F.u,zA a b] = some (.tup [.int .u8 (zcl (F.cls a) (F.cls b)),.int .i64 0]):=by
 rw [Zab G T J.U.ZdT]
 have h1:=Zbl J F ha
 have h2:=Zbl J F hb
 unfold zcl
 generalize F.cls a = c at *
 generalize F.cls b = d at *
 simp only [zA] at *
 by_cases q4 : c = 4∨d = 4
 ·rw [if_pos q4]
  by_cases k : c = 4
  ·repeat' (first|simp (maxSteps:=9^7) only [seval,exC,ZaJ,h1,h2,k]|simp (maxSteps:=9^7) (disch:=first|with_reducible assumption|omega) only [dxB]|(simp only [kdB];split)|(simp only [kvB];split))
  ·have k2 : d = 4:=by omega
   repeat' (first|simp (maxSteps:=9^7) only [seval,exC,ZaJ,h1,h2,k,k2]|simp (maxSteps:=9^7) (disch:=first|with_reducible assumption|omega) only [dxB]|(simp only [kdB];split)|(simp only [kvB];split))
 ·rw [if_neg q4]
  have k1 : ¬ c = 4:=by omega
  have k2 : ¬ d = 4:=by omega
  by_cases q5 : c = 5∨d = 5
  ·rw [if_pos q5]
   by_cases k : c = 5
   ·subst k; repeat' (first|simp (maxSteps:=9^7) only [seval,exC,ZaJ,h1,h2,k2]|simp (maxSteps:=9^7) (disch:=first|with_reducible assumption|omega) only [dxB]|(simp only [kdB];split)|(simp only [kvB];split))
   ·have k3 : d = 5:=by omega
    subst k3; repeat' (first|simp (maxSteps:=9^7) only [seval,exC,ZaJ,h1,h2,k,k1]|simp (maxSteps:=9^7) (disch:=first|with_reducible assumption|omega) only [dxB]|(simp only [kdB];split)|(simp only [kvB];split))
  ·rw [if_neg q5]
   have k3 : ¬ c = 5:=by omega
   have k4 : ¬ d = 5:=by omega
   by_cases q1 : c = 1∧d = 1
   ·rw [if_pos q1]
    obtain ⟨rfl,rfl⟩:=q1
    repeat' (first|simp (maxSteps:=9^7) only [seval,exC,ZaJ,h1,h2]|simp (maxSteps:=9^7) (disch:=first|with_reducible assumption|omega) only [dxB]|(simp only [kdB];split)|(simp only [kvB];split))
   ·rw [if_neg q1]
    by_cases k5 : c = 1
    ·have k6 : ¬ d = 1:=fun h => q1 ⟨k5,h⟩
     subst k5; repeat' (first|simp (maxSteps:=9^7) only [seval,exC,ZaJ,h1,h2,k2,k4,k6]|simp (maxSteps:=9^7) (disch:=first|with_reducible assumption|omega) only [dxB]|(simp only [kdB];split)|(simp only [kvB];split))
    ·repeat' (first|simp (maxSteps:=9^7) only [seval,exC,ZaJ,h1,h2,k1,k2,k3,k4,k5]|simp (maxSteps:=9^7) (disch:=first|with_reducible assumption|omega) only [dxB]|(simp only [kdB];split)|(simp only [kvB];split))
theorem Zmk (J : Al G T g) (F : Fm) {a b : Nat} (ha : a < 18446744073709551616) (hb : b < 18446744073709551616) (h : ¬ (a < 2 * F.sg∧b < 2 * F.sg)) : run G T 189 [.int .u8 F.u,zA a b] = some (.tup [.int .u8 0,.int .i64 6]):=by
 rw [Zab G T J.U.ZdT]
 by_cases k1 : a < 2 * F.sg
 ·have h1:=Zbl J F k1
  have h2:=Zmp J F hb (fun q => h ⟨k1,q⟩)
  generalize F.cls a = c at *
  simp only [zA] at *
  repeat' (first|simp (maxSteps:=9^7) only [seval,exC,ZaJ,h1,h2]|simp (maxSteps:=9^7) (disch:=first|with_reducible assumption|omega) only [dxB]|(simp only [kdB];split)|(simp only [kvB];split))
 ·have h1:=Zmp J F ha k1
  simp only [zA] at *
  repeat' (first|simp (maxSteps:=9^7) only [seval,exC,ZaJ,h1]|simp (maxSteps:=9^7) (disch:=first|with_reducible assumption|omega) only [dxB]|(simp only [kdB];split)|(simp only [kvB];split))
theorem ZGd (F : Fm) (a b : Nat) : Bd (sqD F a b) 65537:=(Zml (ZiW (ZeZ F a) (ZeZ F a)) (ZiW (ZeZ F b) (ZeZ F b))).mono (by decide)
theorem ZFq (F : Fm) (a b : Nat) : Nz (sqD F a b):=Zgz (Zdo _ _) (Zdo _ _)
theorem ZsV (d : Dy) : (mulD d d).n = false:=by
 unfold mulD
 rw [show (d.n != d.n) = false by cases d.n <;> rfl]
 unfold mkD; split <;> rfl
theorem ZDe (F : Fm) (a b : Nat) : (sqD F a b).n = false:=by
 unfold sqD
 have h1:=ZsV (F.vl a)
 have h2:=ZsV (F.vl b)
 generalize mulD (F.vl a) (F.vl a) = x at *
 generalize mulD (F.vl b) (F.vl b) = y at *
 unfold addD
 rw [h1,h2]
 repeat' split
 all_goals first | assumption | (unfold mkD; split <;> rfl)
theorem ZiG (J : Al G T g) (F : Fm) {a b : Nat} (ha : a < 2 * F.sg) (hb : b < 2 * F.sg) :
  ∃ z,run G T 191 [.int .u8 F.u,zA a b] = some (DyA z (sqD F a b)):=by
 obtain ⟨z1,k1,v1⟩:=Zcs J F ha
 obtain ⟨z2,k2,v2⟩:=Zcs J F hb
 have b1:=ZeZ F a
 have b2:=ZeZ F b
 have y1:=ZaL (ZbJ F a) (b1.mono (by decide))
 have y2:=ZaL (ZbJ F b) (b2.mono (by decide))
 obtain ⟨z3,m1⟩:=ZlE J (z:=z1) (y:=z1) (b1.mono (by decide)) (b1.mono (by decide)) y1 y1
 obtain ⟨z4,m2⟩:=ZlE J (z:=z2) (y:=z2) (b2.mono (by decide)) (b2.mono (by decide)) y2 y2
 have b3:=ZiW b1 b1
 have b4:=ZiW b2 b2
 obtain ⟨z5,s1⟩:=Zni J (z:=z3) (y:=z4) b3 b4 (ZaL (Zdo _ _) (b3.mono (by decide))) (ZaL (Zdo _ _) (b4.mono (by decide)))
 refine ⟨z5,?_⟩
 rw [Zab G T J.U.ZiG]
 unfold sqD
 generalize addD (mulD (F.vl a) (F.vl a)) (mulD (F.vl b) (F.vl b)) = d at *
 generalize mulD (F.vl a) (F.vl a) = p at *
 generalize mulD (F.vl b) (F.vl b) = q at *
 generalize F.vl a = va at *
 generalize F.vl b = vb at *
 clear b1 b2 b3 b4 y1 y2
 simp only [zA,DyA,A3] at *
 repeat' (first|simp (maxSteps:=9^7) only [seval,exC,Zdy,v1,v2,m1,m2,s1]|simp (maxSteps:=9^7) (disch:=first|with_reducible assumption|omega) only [dxB]|(simp only [kdB];split)|(simp only [kvB];split))
def toldW (F : Fm) (c : Int) (X : Nat × Nat) : Nat × Nat:=if c = 3 then (F.inf false,0) else if c = 4 then (F.nan,0) else X
theorem Zll (J : Al G T g) (F : Fm) {md : Int} (hm : 1≤md∧md≤5) {a b : Nat} (ha : a < 2 * F.sg) (hb : b < 2 * F.sg) {k : Nat} {X : Nat × Nat}
  (hk : ∀ z,run G T k [.int .u8 F.u,.int .u8 md,DyA z (sqD F a b)] = some (.tup [.int .u64 (X.1 : Int),.int .u8 (X.2 : Int),.int .i64 0])) :
  run G T 186 [.int .u8 F.u,.int .u8 md,zA a b,.fn k []] = some (.tup [.int .u64 ((toldW F (zcl (F.cls a) (F.cls b)) X).1 : Int),.int .u8 ((toldW F (zcl (F.cls a) (F.cls b)) X).2 : Int),.int .i64 0]):=by
 rw [Zab G T J.U.Zll]
 have o1:=Zec J F hm (neg:=false)
 have c1:=ZdT J F ha hb
 have i1:=ZjG J F (n:=false)
 have n1:=Zgg J F
 obtain ⟨z,s1⟩:=ZiG J F ha hb
 have hk:=hk z
 unfold toldW
 generalize zcl (F.cls a) (F.cls b) = c at *
 generalize sqD F a b = d at *
 simp only [zA,DyA,A3] at *
 by_cases k3 : c = 3
 ·rw [if_pos k3]
  repeat' (first|simp (maxSteps:=9^7) only [seval,exC,Zct,o1,c1,k3,i1]|simp (maxSteps:=9^7) (disch:=first|with_reducible assumption|omega) only [dxB]|(simp only [kdB];split)|(simp only [kvB];split))
  all_goals rfl
 ·rw [if_neg k3]
  by_cases k4 : c = 4
  ·rw [if_pos k4]
   subst k4
   repeat' (first|simp (maxSteps:=9^7) only [seval,exC,Zct,o1,c1,n1]|simp (maxSteps:=9^7) (disch:=first|with_reducible assumption|omega) only [dxB]|(simp only [kdB];split)|(simp only [kvB];split))
   all_goals rfl
  ·rw [if_neg k4]
   repeat' (first|simp (maxSteps:=9^7) only [seval,exC,Zct,o1,c1,k3,k4,s1,hk]|simp (maxSteps:=9^7) (disch:=first|with_reducible assumption|omega) only [dxB]|(simp only [kdB];split)|(simp only [kvB];split))
   all_goals try rfl
noncomputable def rtW (F : Fm) (md : Int) (d : Dy) : Nat × Nat:=if d.m = 0 then (0,0) else rootW F md d
noncomputable def absZ (F : Fm) (md : Int) (a b : Nat) : Nat × Nat:=toldW F (zcl (F.cls a) (F.cls b)) (rtW F md (sqD F a b))
theorem Zmt (J : Al G T g) (F : Fm) {md : Int} (hm : 1≤md∧md≤5) {a b : Nat} (ha : a < 2 * F.sg) (hb : b < 2 * F.sg) :
  run G T 169 [.int .u8 F.u,.int .u8 md,zA a b] = some (.tup [.int .u64 ((absZ F md a b).1 : Int),.int .u8 ((absZ F md a b).2 : Int),.int .i64 0]):=by
 rw [Zab G T J.U.Zmt]
 have hd:=ZaL (ZFq F a b) ((ZGd F a b).mono (show 65537≤131072 by decide))
 have h1:=Zll J F hm ha hb (k:=18) (X:=rtW F md (sqD F a b)) (fun z => by
  unfold rtW
  by_cases h0 : (sqD F a b).m = 0
  ·rw [if_pos h0]; exact ZpO J F hm hd h0
  ·rw [if_neg h0]; exact Zme J F hm hd h0 (ZDe F a b))
 unfold absZ
 generalize toldW F (zcl (F.cls a) (F.cls b)) (rtW F md (sqD F a b)) = S at *
 simp only [zA] at *
 repeat' (first|simp (maxSteps:=9^7) only [seval,exC,Zhb,h1]|simp (maxSteps:=9^7) (disch:=first|with_reducible assumption|omega) only [dxB]|(simp only [kdB];split)|(simp only [kvB];split))
 all_goals try rfl
end Go.Cv
namespace Go.Cv
variable {G : Nat→Option (List AV)} {T : Tbl} {g : Nat}
theorem Zfb (J : Al G T g) (F : Fm) {a b : Nat} (ha : a < 2 * F.sg) (hb : b < 2 * F.sg) : run G T 237 [.int .u8 F.u,zA a b] = some (.int .u8 (zcl (F.cls a) (F.cls b))):=by
 rw [Zab G T J.H.Zfb]
 have h1:=Zav J F (Zce ha)
 have h2:=Zav J F (Zce hb)
 unfold zcl
 generalize F.cls a = c at *
 generalize F.cls b = d at *
 simp only [zA] at *
 by_cases q4 : c = 4∨d = 4
 ·rw [if_pos q4]
  by_cases k : c = 4
  ·repeat' (first|simp (maxSteps:=9^7) only [seval,exC,ZaV,h1,h2,k]|simp (maxSteps:=9^7) (disch:=first|with_reducible assumption|omega) only [dxB]|(simp only [kdB];split)|(simp only [kvB];split))
  ·have k2 : d = 4:=by omega
   repeat' (first|simp (maxSteps:=9^7) only [seval,exC,ZaV,h1,h2,k,k2]|simp (maxSteps:=9^7) (disch:=first|with_reducible assumption|omega) only [dxB]|(simp only [kdB];split)|(simp only [kvB];split))
 ·rw [if_neg q4]
  have k1 : ¬ c = 4:=by omega
  have k2 : ¬ d = 4:=by omega
  by_cases q5 : c = 5∨d = 5
  ·rw [if_pos q5]
   by_cases k : c = 5
   ·subst k; repeat' (first|simp (maxSteps:=9^7) only [seval,exC,ZaV,h1,h2,k2]|simp (maxSteps:=9^7) (disch:=first|with_reducible assumption|omega) only [dxB]|(simp only [kdB];split)|(simp only [kvB];split))
   ·have k3 : d = 5:=by omega
    subst k3; repeat' (first|simp (maxSteps:=9^7) only [seval,exC,ZaV,h1,h2,k,k1]|simp (maxSteps:=9^7) (disch:=first|with_reducible assumption|omega) only [dxB]|(simp only [kdB];split)|(simp only [kvB];split))
  ·rw [if_neg q5]
   have k3 : ¬ c = 5:=by omega
   have k4 : ¬ d = 5:=by omega
   by_cases q1 : c = 1∧d = 1
   ·rw [if_pos q1]
    obtain ⟨rfl,rfl⟩:=q1
    repeat' (first|simp (maxSteps:=9^7) only [seval,exC,ZaV,h1,h2]|simp (maxSteps:=9^7) (disch:=first|with_reducible assumption|omega) only [dxB]|(simp only [kdB];split)|(simp only [kvB];split))
   ·rw [if_neg q1]
    by_cases k5 : c = 1
    ·have k6 : ¬ d = 1:=fun h => q1 ⟨k5,h⟩
     subst k5; repeat' (first|simp (maxSteps:=9^7) only [seval,exC,ZaV,h1,h2,k2,k4,k6]|simp (maxSteps:=9^7) (disch:=first|with_reducible assumption|omega) only [dxB]|(simp only [kdB];split)|(simp only [kvB];split))
    ·repeat' (first|simp (maxSteps:=9^7) only [seval,exC,ZaV,h1,h2,k1,k2,k3,k4,k5]|simp (maxSteps:=9^7) (disch:=first|with_reducible assumption|omega) only [dxB]|(simp only [kdB];split)|(simp only [kvB];split))
theorem ZFY {F : Fm} {a b : Nat} (h3 : zcl (F.cls a) (F.cls b)≠3) (h4 : zcl (F.cls a) (F.cls b)≠4) : F.fin a∧F.fin b:=by
 have ra:=ZaN F a
 have rb:=ZaN F b
 unfold zcl at h3 h4
 have k1 : ¬ (F.cls a = 4∨F.cls b = 4):=fun h => h3 (if_pos h)
 rw [if_neg k1] at h4
 have k2 : ¬ (F.cls a = 5∨F.cls b = 5):=fun h => h4 (if_pos h)
 exact ⟨Zag.2 (by omega),Zag.2 (by omega)⟩
theorem ZkY (J : Al G T g) (F : Fm) {a b : Nat} (ha : a < 2 * F.sg) (hb : b < 2 * F.sg) (fa : F.fin a) (fb : F.fin b) :
  ∃ z,run G T 236 [.int .u8 F.u,zA a b] = some (DyA z (sqD F a b)):=by
 obtain ⟨z1,v1⟩:=Zbo J F (Zce ha) fa
 obtain ⟨z2,v2⟩:=Zbo J F (Zce hb) fb
 rw [← Zbm fa] at v1
 rw [← Zbm fb] at v2
 obtain ⟨p1,p2,p3⟩:=ZeZ F a
 obtain ⟨q1,q2,q3⟩:=ZeZ F b
 have hl1:=Zaa (F.vl a).m
 have hl2:=Zaa (F.vl b).m
 obtain ⟨z3,m1⟩:=Zjj J (z:=z1) (y:=z1) (a:=F.vl a) (b:=F.vl a) (by omega) (by omega) (by omega) (by omega)
 obtain ⟨z4,m2⟩:=Zjj J (z:=z2) (y:=z2) (a:=F.vl b) (b:=F.vl b) (by omega) (by omega) (by omega) (by omega)
 obtain ⟨z5,s1⟩:=Zex J (z:=z3) (y:=z4) (a:=mulD (F.vl a) (F.vl a)) (b:=mulD (F.vl b) (F.vl b)) ((ZiW (ZeZ F a) (ZeZ F a)).mono (by decide)) ((ZiW (ZeZ F b) (ZeZ F b)).mono (by decide))
 refine ⟨z5,?_⟩
 rw [show mkD ((F.vl a).n != (F.vl a).n) ((F.vl a).m * (F.vl a).m) ((F.vl a).e + (F.vl a).e) = mulD (F.vl a) (F.vl a) from rfl] at m1
 rw [show mkD ((F.vl b).n != (F.vl b).n) ((F.vl b).m * (F.vl b).m) ((F.vl b).e + (F.vl b).e) = mulD (F.vl b) (F.vl b) from rfl] at m2
 rw [Zab G T J.H.ZkY]
 unfold sqD
 generalize addD (mulD (F.vl a) (F.vl a)) (mulD (F.vl b) (F.vl b)) = d at *
 generalize mulD (F.vl a) (F.vl a) = p at *
 generalize mulD (F.vl b) (F.vl b) = q at *
 generalize F.vl a = va at *
 generalize F.vl b = vb at *
 simp only [zA,DyA,A3] at *
 repeat' (first|simp (maxSteps:=9^7) only [seval,exC,ZfT,v1,v2,m1,m2,s1]|simp (maxSteps:=9^7) (disch:=first|with_reducible assumption|omega) only [dxB]|(simp only [kdB];split)|(simp only [kvB];split))
theorem ZnR (J : Al G T g) (F : Fm) {a b : Nat} (ha : a < 2 * F.sg) (hb : b < 2 * F.sg) :
  (zcl (F.cls a) (F.cls b) = 3∧run G T 235 [.int .u8 F.u,zA a b] = some (.tup [.int .u64 ((F.inf false : Nat) : Int),.bool true])) ∨
  (zcl (F.cls a) (F.cls b) = 4∧run G T 235 [.int .u8 F.u,zA a b] = some (.tup [.int .u64 (F.nan : Int),.bool true])) ∨
  ((zcl (F.cls a) (F.cls b)≠3∧zcl (F.cls a) (F.cls b)≠4)∧run G T 235 [.int .u8 F.u,zA a b] = some (.tup [.int .u64 0,.bool false])):=by
 have c1:=Zfb J F ha hb
 have i1:=ZhA J F (n:=false)
 have n1:=Zft J F
 rw [Zab G T J.H.ZnR]
 generalize zcl (F.cls a) (F.cls b) = c at *
 simp only [zA] at *
 by_cases k3 : c = 3
 ·left; refine ⟨k3,?_⟩
  subst k3
  repeat' (first|simp (maxSteps:=9^7) only [seval,exC,ZdY,c1,i1]|simp (maxSteps:=9^7) (disch:=first|with_reducible assumption|omega) only [dxB]|(simp only [kdB];split)|(simp only [kvB];split))
 ·right
  by_cases k4 : c = 4
  ·left; refine ⟨k4,?_⟩
   subst k4
   repeat' (first|simp (maxSteps:=9^7) only [seval,exC,ZdY,c1,n1]|simp (maxSteps:=9^7) (disch:=first|with_reducible assumption|omega) only [dxB]|(simp only [kdB];split)|(simp only [kvB];split))
  ·right; refine ⟨⟨k3,k4⟩,?_⟩
   repeat' (first|simp (maxSteps:=9^7) only [seval,exC,ZdY,c1,k3,k4]|simp (maxSteps:=9^7) (disch:=first|with_reducible assumption|omega) only [dxB]|(simp only [kdB];split)|(simp only [kvB];split))
theorem ZkZ (J : Al G T g) (F : Fm) {md : Int} (hm : 1≤md∧md≤5) {a b : Nat} (ha : a < 2 * F.sg) (hb : b < 2 * F.sg) :
  run G T 227 [.int .u8 F.u,.int .u8 md,zA a b] = some (.tup [.int .u64 ((absZ F md a b).1 : Int),.int .u8 ((absZ F md a b).2 : Int)]):=by
 rw [Zab G T J.H.ZkZ]
 unfold absZ toldW
 rcases ZnR J F ha hb with ⟨k,e1⟩ | ⟨k,e1⟩ | ⟨⟨k3,k4⟩,e1⟩
 ·rw [if_pos k]
  simp only [zA] at *
  repeat' (first|simp (maxSteps:=9^7) only [seval,exC,Zfv,e1]|simp (maxSteps:=9^7) (disch:=first|with_reducible assumption|omega) only [dxB]|(simp only [kdB];split)|(simp only [kvB];split))
  all_goals rfl
 ·rw [if_neg (by omega),if_pos k]
  simp only [zA] at *
  repeat' (first|simp (maxSteps:=9^7) only [seval,exC,Zfv,e1]|simp (maxSteps:=9^7) (disch:=first|with_reducible assumption|omega) only [dxB]|(simp only [kdB];split)|(simp only [kvB];split))
  all_goals rfl
 ·rw [if_neg k3,if_neg k4]
  obtain ⟨fa,fb⟩:=ZFY k3 k4
  obtain ⟨z,s1⟩:=ZkY J F ha hb fa fb
  have r1 : run G T 19 [.int .u8 F.u,.int .u8 md,DyA z (sqD F a b)] = some (.tup [.int .u64 ((rtW F md (sqD F a b)).1 : Int),.int .u8 ((rtW F md (sqD F a b)).2 : Int)]):=by
   unfold rtW
   have hb1:=(ZGd F a b).bl
   by_cases h0 : (sqD F a b).m = 0
   ·rw [if_pos h0]; exact Zqf J F h0
   ·rw [if_neg h0]; exact Zmc J F hm h0 ((ZGd F a b).mono (by decide)) (by omega)
  generalize rtW F md (sqD F a b) = S at *
  generalize sqD F a b = d at *
  simp only [zA,DyA,A3] at *
  repeat' (first|simp (maxSteps:=9^7) only [seval,exC,Zfv,e1,s1,r1]|simp (maxSteps:=9^7) (disch:=first|with_reducible assumption|omega) only [dxB]|(simp only [kdB];split)|(simp only [kvB];split))
  all_goals try rfl
theorem Zqn (e : Env) (h : Heap) : evL G T ZcH e h = kS G T (evL G T Zaz (keepE [0,1,5] e) h) ZcH:=Zae G T rfl e h
section
variable (x y u v : AV) (k : IntKind)
theorem ZFU : iaddrV 2 (.imm 1 [x,y]) (.int k 0) = some (.iptr [x,y] 0):=rfl
theorem ZCd : iaddrV 2 (.imm 2 [x,y,u,v]) (.int k 0) = some (.iptr [x,y,u,v] 0):=rfl
theorem ZBU : iaddrV 2 (.imm 2 [x,y,u,v]) (.int k 1) = some (.iptr [x,y,u,v] 2):=rfl
theorem fa_i (off o : Nat) (cs : List AV) : faddrA off (.iptr cs o) = some (.iptr cs (o + off)):=rfl
end
theorem Zic (F : CallF) (d : Option Nat) (os : List IOper) (e : Env) (h : Heap) (n : Nat) (zero : List AV) (ps : List (Nat × Nat × IOpd)) : evOps G F (⟨d,.bslice n 2 zero ps,none⟩ :: os) e h =
  kBs G F (fillA (repA n zero) (ps.map fun (o,n,x) => (o,n,opd e x))) (.own h.b.length 0 n 2) d os e h:=Zgd G F d os e h n 2 zero ps
theorem Zum (J : Al G T g) (F : Fm) {a b : Nat} (ha : a < 18446744073709551616) (hb : b < 18446744073709551616) :
  run G T 185 [.int .u8 F.u,.imm 1 [.int .u64 (a : Int),.int .u64 (b : Int)]] = some (.int .i64 (if a < 2 * F.sg∧b < 2 * F.sg then 0 else 6)):=by
 rw [Zab G T J.U.ref10_Good]
 have h1:=Znv J F
 have h3:=Zhn J F ha
 have h4:=Zhn J F hb
 by_cases k1 : a < 2 * F.sg
 ·rw [if_pos k1] at h3
  by_cases k2 : b < 2 * F.sg
  ·rw [if_pos k2] at h4
   rw [if_pos ⟨k1,k2⟩]
   repeat' (first|simp (maxSteps:=9^7) only [seval,exC,ZbY,h1,Zqn,Zaz,ZFU,fa_i,rp_0,rp_1,wr_1,wr1,h3,h4]|simp (maxSteps:=9^7) (disch:=first|with_reducible assumption|omega) only [dxB]|(simp only [kdB];split)|(simp only [kvB];split))
  ·rw [if_neg k2] at h4
   rw [if_neg (fun h => k2 h.2)]
   repeat' (first|simp (maxSteps:=9^7) only [seval,exC,ZbY,h1,Zqn,Zaz,ZFU,fa_i,rp_0,rp_1,wr_1,wr1,h3,h4]|simp (maxSteps:=9^7) (disch:=first|with_reducible assumption|omega) only [dxB]|(simp only [kdB];split)|(simp only [kvB];split))
 ·rw [if_neg k1] at h3
  rw [if_neg (fun h => k1 h.1)]
  repeat' (first|simp (maxSteps:=9^7) only [seval,exC,ZbY,h1,Zqn,Zaz,ZFU,fa_i,rp_0,rp_1,wr_1,wr1,h3]|simp (maxSteps:=9^7) (disch:=first|with_reducible assumption|omega) only [dxB]|(simp only [kdB];split)|(simp only [kvB];split))
end Go.Cv
namespace Go.Cv
variable {G : Nat→Option (List AV)} {T : Tbl} {g : Nat}
def Fm.min (F : Fm) (w : Nat) : Nat:=if F.cls w = 5 then F.nan else F.flip w
def Sim (F : Fm) (a b : Nat) : Prop:=F.cls a = F.cls b∧mulD (F.vl a) (F.vl a) = mulD (F.vl b) (F.vl b)
theorem Sim.refl (F : Fm) (a : Nat) : Sim F a a:=⟨rfl,rfl⟩
theorem Sim.trans {F : Fm} {a b c : Nat} (h : Sim F a b) (k : Sim F b c) : Sim F a c:=⟨h.1.trans k.1,h.2.trans k.2⟩
theorem neg_mul (d : Dy) : mulD (negD d) (negD d) = mulD d d:=by
 unfold negD
 split
 ·rfl
 ·unfold mulD; simp only; cases d.n <;> rfl
theorem Zly {a b : Dy} (h : a.m = 0∨b.m = 0) : mulD a b = ⟨false,0,0⟩:=by
 unfold mulD
 rcases h with h | h
 ·rw [h,Nat.zero_mul]; rfl
 ·rw [h,Nat.mul_zero]; rfl
theorem fd_3 (b : Bool) (x y : AV) : fieldA false 0 1 (.agg [.bool b,x,y]) = some (.bool b):=rfl
end Go.Cv
