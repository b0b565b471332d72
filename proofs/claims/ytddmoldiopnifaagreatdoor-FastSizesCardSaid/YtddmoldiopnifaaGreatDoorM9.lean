/-
 A part of the proof of the statements of this seat (texts that the law's own text leans on): no condition.
-/
import Derived.Test.YtddmoldiopnifaaGreatDoorM8
import Derived.Test.YtddmoldiopnifaaGreatDoorM7
import Derived.Test.YtddmoldiopnifaaGreatDoorM6
set_option linter.unusedVariables false
set_option linter.unusedSimpArgs false
namespace Go.Cv
variable {G : Nat→Option (List AV)} {T : Tbl} {g : Nat}
def mayL (l : List Nat) : Bool:=decide (l.length≤4096) && (l.isEmpty || decide (dg l (l.length - 1)≠0))
theorem Zby (J : Al G T g) (z : Bool) (l : List Nat) : run G T 86 [D z l] = some (.bool (mayL l)):=by
 rw [Zac G T J.A.Zby]
 by_cases h1 : (l.length : Int)≤4096
 ·by_cases h2 : (l.length : Int) = 0
  ·repeat (first | (simp (maxSteps:=9^7) only [seval,evB,Zhz,h1,h2]) | (simp (disch:=omega) only [dsB]))
   have : l = []:=List.length_eq_zero_iff.1 (by omega)
   subst this; rfl
  ·repeat (first | (simp (maxSteps:=9^7) only [seval,evB,Zhz,h1,h2]) | (simp (disch:=omega) only [dsB]))
   have e1 : decide (l.length≤4096) = true:=decide_eq_true (by omega)
   have e2 : l.isEmpty = false:=by cases l with
    | nil => exact absurd rfl h2
    | cons => rfl
   simp [mayL,e1,e2,Bool.true_and,Bool.false_or]
 ·repeat (first | (simp (maxSteps:=9^7) only [seval,evB,Zhz,h1]) | (simp (disch:=omega) only [dsB]))
  have e1 : decide (l.length≤4096) = false:=decide_eq_false (by omega)
  simp only [mayL,e1,Bool.false_and]
theorem ZaV {l : List Nat} : mayL l = true↔l.length≤4096∧Nm l:=by
 simp only [mayL,Bool.and_eq_true,Bool.or_eq_true,decide_eq_true_eq,List.isEmpty_iff,Nm]
theorem ZrP (h : Heap) : ∀ (n : Nat) (l : List Nat) (z : Bool),l.length = n→n < 1099511627776→Dg l →
  ∃ z' e',evL G T Zbq [(0,D z l)] h = some (.exit 0,(0,D z' (dl (val l))) :: e',h)
 | n,l,z,hn,hb,hd => by
  by_cases h0 : (0 : Int) < l.length
  ·by_cases h1 : ((dg l (l.length - 1) : Nat) : Int) = 0
   ·cases n with
    | zero => omega
    | succ n =>
     obtain ⟨z',e',ih⟩:=ZrP h n (l.take (l.length - 1)) (zz z l) (by rw [List.length_take]; omega) (by omega) (hd.take _)
     refine ⟨z',e',?_⟩
     rw [Zaf G T (c:=Zbq) rfl]
     repeat (first | (simp (maxSteps:=9^7) only [seval,evB,ZbW,h0,h1]) | (simp (disch:=omega) only [dsB]))
     rw [ih]
     have : dl (val (l.take (l.length - 1))) = dl (val l):=by
      have e:=Zma (l:=l) (i:=l.length - 1) (by omega)
      rw [show l.length - 1 + 1 = l.length by omega,List.take_length] at e
      rw [e,show dg l (l.length - 1) = 0 by omega,Nat.mul_zero,Nat.add_zero]
     rw [this]
   ·refine ⟨z,[(14,.bool false)],?_⟩
    rw [Zaf G T (c:=Zbq) rfl]
    repeat (first | (simp (maxSteps:=9^7) only [seval,evB,ZbW,h0,h1]) | (simp (disch:=omega) only [dsB]))
    rw [Ztk hd (Or.inr (by omega))]
  ·refine ⟨z,[(14,.bool false)],?_⟩
   rw [Zaf G T (c:=Zbq) rfl]
   repeat (first | (simp (maxSteps:=9^7) only [seval,evB,ZbW,h0]) | (simp (disch:=omega) only [dsB]))
   rw [Ztk hd (Or.inl (List.length_eq_zero_iff.1 (by omega)))]
theorem ZbM (J : Al G T g) {z : Bool} {l : List Nat} (hd : Dg l) (hb : l.length < 1099511627776) : ∃ z',run G T 94 [D z l] = some (D z' (dl (val l))):=by
 obtain ⟨z',e',hl⟩:=ZrP (G:=G) (T:=T) .nil l.length l z rfl hb hd
 refine ⟨z',?_⟩
 rw [Zac G T J.A.ZbM]
 repeat (first | (simp (maxSteps:=9^7) only [seval,evB,ZfV,hl]) | (simp (disch:=omega) only [dsB]))
theorem ZqC (h : Heap) (l : List Nat) (z : Bool) (hb : l.length < 1099511627776) (hd : Dg l) : ∀ n : Nat,n≤l.length→val (l.drop n) = 0 →
  ∃ (n' : Nat) (e' : Env),evL G T Zcw [(0,D z l),(3,.int .i64 (n : Int))] h = some (.exit 0,(0,D z l) :: (3,.int .i64 (n' : Int)) :: e',h)∧n'≤l.length∧l.take n' = dl (val l)
 | n,hn,hr => by
  by_cases h0 : (0 : Int) < n
  ·by_cases h1 : ((dg l (n - 1) : Nat) : Int) = 0
   ·cases n with
    | zero => omega
    | succ n =>
     obtain ⟨n',e',ih,hk⟩:=ZqC h l z hb hd n (by omega) (ZqK (by simpa using h1) hr)
     refine ⟨n',e',?_,hk⟩
     rw [Zaf G T (c:=Zcw) rfl]
     have e1 : ((n + 1 : Nat) : Int) - 1 = n:=by omega
     rw [Nat.add_sub_cancel] at h1
     repeat (first | (simp (maxSteps:=9^7) only [seval,evB,ZdP,h0,h1,e1]) | (simp (disch:=omega) only [dsB]))
     rw [ih]
   ·refine ⟨n,[(15,.bool false)],?_,hn,ZwL hd n hn (by omega) hr⟩
    rw [Zaf G T (c:=Zcw) rfl]
    repeat (first | (simp (maxSteps:=9^7) only [seval,evB,ZdP,h0,h1]) | (simp (disch:=omega) only [dsB]))
  ·refine ⟨n,[(15,.bool false)],?_,hn,ZwL hd n hn (by omega) hr⟩
   rw [Zaf G T (c:=Zcw) rfl]
   repeat (first | (simp (maxSteps:=9^7) only [seval,evB,ZdP,h0]) | (simp (disch:=omega) only [dsB]))
theorem ZdE (J : Al G T g) {z : Bool} {l : List Nat} (hd : Dg l) (hb : l.length < 1099511627776) : ∃ z',run G T 85 [D z l] = some (D z' (dl (val l))):=by
 obtain ⟨n',e',hl,hn,ht⟩:=ZqC (G:=G) (T:=T) .nil l z hb hd l.length (Nat.le_refl _) (by rw [List.drop_length]; rfl)
 refine ⟨zz z l,?_⟩
 rw [Zac G T J.B.ZdE]
 repeat (first | (simp (maxSteps:=9^7) only [seval,evB,ZgN,hl,ht]) | (simp (disch:=omega) only [dsB]))
theorem ZqB (h : Heap) (a b : List Nat) (z y : Bool) (hb : a.length < 1099511627776) (hl : a.length = b.length) : ∀ m n : Nat,m + n = a.length→a.take n = b.take n →
  Post (evL G T ZdO [(0,D z a),(1,D y b),(5,.int .i64 (n : Int))] h) fun r =>
   (∃ e,r = (.exit 0,e,h)∧a = b)∨r = (.ret,[(4,.bool false)],h)∧a≠b
 | 0,n,hm,ht => by
  rw [Zaf G T (c:=ZdO) rfl]
  have h0 : ¬ (n : Int) < a.length:=by omega
  repeat (first | (simp (maxSteps:=9^7) only [seval,evB,ZdN,h0]) | (simp (disch:=omega) only [dsB]))
  refine Post.some (Or.inl ⟨_,rfl,?_⟩)
  rw [List.take_of_length_le (by omega),List.take_of_length_le (by omega)] at ht; exact ht
 | m + 1,n,hm,ht => by
  rw [Zaf G T (c:=ZdO) rfl]
  have h0 : (n : Int) < a.length:=by omega
  by_cases h1 : (dg a n : Int) = dg b n
  ·repeat (first | (simp (maxSteps:=9^7) only [seval,evB,ZdN,h0,h1]) | (simp (disch:=omega) only [dsB]))
   exact ZqB h a b z y hb hl m (n + 1) (by omega) (by rw [ZjS (by omega),ZjS (by omega),ht]; congr 2; omega)
  ·repeat (first | (simp (maxSteps:=9^7) only [seval,evB,ZdN,h0,h1]) | (simp (disch:=omega) only [dsB]))
   refine Post.some (Or.inr ⟨rfl,?_⟩)
   rintro rfl; exact h1 rfl
theorem ZhN (J : Al G T g) {z y : Bool} {a b : List Nat} (hb : a.length < 1099511627776) : run G T 39 [D z a,D y b] = some (.bool (decide (a = b))):=by
 rw [Zac G T J.B.ZhN]
 by_cases h0 : (a.length : Int) = b.length
 ·obtain ⟨r,hr,hp⟩:=ZqB (G:=G) (T:=T) .nil a b z y hb (by omega) a.length 0 (by omega) rfl
  rw [cast0] at hr
  rcases hp with ⟨e,rfl,he⟩ | ⟨rfl,he⟩
  ·repeat (first | (simp (maxSteps:=9^7) only [seval,evB,Zdw,h0,hr]) | (simp (disch:=omega) only [dsB]))
   rw [decide_eq_true he]
  ·repeat (first | (simp (maxSteps:=9^7) only [seval,evB,Zdw,h0,hr]) | (simp (disch:=omega) only [dsB]))
   rw [decide_eq_false he]
 ·repeat (first | (simp (maxSteps:=9^7) only [seval,evB,Zdw,h0]) | (simp (disch:=omega) only [dsB]))
  rw [decide_eq_false (by rintro rfl; exact h0 rfl)]
theorem Zti (h : Heap) (a b : List Nat) (z y : Bool) (ha : Dg a) (hb : Dg b) (hs : a.length < 1099511627776) (hl : a.length = b.length) : ∀ n : Nat,n≤a.length→val (a.drop n) = val (b.drop n) →
  Post (evL G T ZgH [(0,D z a),(1,D y b),(5,.int .i64 ((n : Int) - 1))] h) fun r =>
   (∃ e,r = (.exit 1,e,h)∧val a = val b)∨r = (.ret,[(4,.int .i64 (cmpN (val a) (val b)))],h)∧val a≠val b
 | 0,hn,he => by
  rw [Zaf G T (c:=ZgH) rfl]
  repeat (first | (simp (maxSteps:=9^7) only [seval,evB,Zfb,cast0,Int.zero_sub]) | (simp (disch:=omega) only [dsB]))
  exact Post.some (Or.inl ⟨_,rfl,he⟩)
 | n + 1,hn,he => by
  rw [Zaf G T (c:=ZgH) rfl]
  have e1 : ((n + 1 : Nat) : Int) - 1 = n:=by omega
  have h0 : (0 : Int)≤n:=by omega
  by_cases h1 : (dg a n : Int) = dg b n
  ·repeat (first | (simp (maxSteps:=9^7) only [seval,evB,Zfb,e1,h0,h1]) | (simp (disch:=omega) only [dsB]))
   refine Zti h a b z y ha hb hs hl n (by omega) ?_
   rw [ZdY (l:=a) (i:=n) (by omega),ZdY (l:=b) (i:=n) (by omega),ZaJ,ZaJ,he]; omega
  ·by_cases h2 : (dg a n : Int) < dg b n
   ·repeat (first | (simp (maxSteps:=9^7) only [seval,evB,Zfb,e1,h0,h1,h2]) | (simp (disch:=omega) only [dsB]))
    have:=ZlZ ha (n:=n) (by omega) (by omega) he (by omega)
    exact Post.some (Or.inr ⟨by rw [Znp this],by omega⟩)
   ·repeat (first | (simp (maxSteps:=9^7) only [seval,evB,Zfb,e1,h0,h1,h2]) | (simp (disch:=omega) only [dsB]))
    have:=ZlZ hb (n:=n) (by omega) (by omega) he.symm (by omega)
    exact Post.some (Or.inr ⟨by rw [Zpw this],by omega⟩)
theorem ZkM (J : Al G T g) {z y : Bool} {a b : Nat} (ha : (dl a).length < 1099511627776) (hb : (dl b).length < 1099511627776) :
  run G T 107 [D z (dl a),D y (dl b)] = some (.int .i64 (cmpN a b)):=by
 rw [Zac G T J.A.ZkM]
 by_cases h0 : ((dl a).length : Int) < (dl b).length
 ·repeat (first | (simp (maxSteps:=9^7) only [seval,evB,Zgg,h0]) | (simp (disch:=omega) only [dsB]))
  rw [Znp (Zjl (by omega))]
 ·by_cases h1 : ((dl b).length : Int) < (dl a).length
  ·repeat (first | (simp (maxSteps:=9^7) only [seval,evB,Zgg,h0,h1]) | (simp (disch:=omega) only [dsB]))
   rw [Zpw (Zjl (by omega))]
  ·obtain ⟨r,hr,hp⟩:=Zti (G:=G) (T:=T) .nil (dl a) (dl b) z y (ZaC a) (ZaC b) ha (by omega) (dl a).length (Nat.le_refl _)
    (by rw [List.drop_eq_nil_of_le (by omega),List.drop_eq_nil_of_le (by omega)])
   rw [ZaN,ZaN] at hp
   rcases hp with ⟨e,rfl,he⟩ | ⟨rfl,he⟩
   ·repeat (first | (simp (maxSteps:=9^7) only [seval,evB,Zgg,h0,h1,hr]) | (simp (disch:=omega) only [dsB]))
    rw [ZwG he]
   ·repeat (first | (simp (maxSteps:=9^7) only [seval,evB,Zgg,h0,h1,hr]) | (simp (disch:=omega) only [dsB]))
theorem ZsP (h : Heap) (a b : List Nat) (z y : Bool) (ha : Dg a) (hb : Dg b) (hs : a.length < 1099511627776) (hl : a.length = b.length) : ∀ n : Nat,n≤a.length→val (a.drop n) = val (b.drop n) →
  Post (evL G T ZeI [(0,D z a),(1,D y b),(5,.int .i64 ((n : Int) - 1))] h) fun r =>
   (∃ e,r = (.exit 0,e,h)∧val a = val b)∨r = (.ret,[(4,.int .i64 (cmpN (val a) (val b)))],h)∧val a≠val b
 | 0,hn,he => by
  rw [Zaf G T (c:=ZeI) rfl]
  repeat (first | (simp (maxSteps:=9^7) only [seval,evB,Zda,cast0,Int.zero_sub]) | (simp (disch:=omega) only [dsB]))
  exact Post.some (Or.inl ⟨_,rfl,he⟩)
 | n + 1,hn,he => by
  rw [Zaf G T (c:=ZeI) rfl]
  have e1 : ((n + 1 : Nat) : Int) - 1 = n:=by omega
  have h0 : (0 : Int)≤n:=by omega
  by_cases h1 : (dg a n : Int) < dg b n
  ·repeat (first | (simp (maxSteps:=9^7) only [seval,evB,Zda,e1,h0,h1]) | (simp (disch:=omega) only [dsB]))
   have:=ZlZ ha (n:=n) (by omega) (by omega) he (by omega)
   exact Post.some (Or.inr ⟨by rw [Znp this],by omega⟩)
  ·by_cases h2 : (dg b n : Int) < dg a n
   ·repeat (first | (simp (maxSteps:=9^7) only [seval,evB,Zda,e1,h0,h1,h2]) | (simp (disch:=omega) only [dsB]))
    have:=ZlZ hb (n:=n) (by omega) (by omega) he.symm (by omega)
    exact Post.some (Or.inr ⟨by rw [Zpw this],by omega⟩)
   ·repeat (first | (simp (maxSteps:=9^7) only [seval,evB,Zda,e1,h0,h1,h2]) | (simp (disch:=omega) only [dsB]))
    refine ZsP h a b z y ha hb hs hl n (by omega) ?_
    rw [ZdY (l:=a) (i:=n) (by omega),ZdY (l:=b) (i:=n) (by omega),ZaJ,ZaJ,he]; omega
theorem ZlH (J : Al G T g) {z y : Bool} {a b : Nat} (ha : (dl a).length < 1099511627776) (hb : (dl b).length < 1099511627776) :
  run G T 100 [D z (dl a),D y (dl b)] = some (.int .i64 (cmpN a b)):=by
 rw [Zac G T J.B.ZlH]
 by_cases h0 : ((dl a).length : Int) < (dl b).length
 ·have h2 : ¬ ((dl a).length : Int) = (dl b).length:=by omega
  repeat (first | (simp (maxSteps:=9^7) only [seval,evB,Zdp,h0,h2]) | (simp (disch:=omega) only [dsB]))
  rw [Znp (Zjl (by omega))]
 ·by_cases h1 : ((dl b).length : Int) < (dl a).length
  ·have h2 : ¬ ((dl a).length : Int) = (dl b).length:=by omega
   repeat (first | (simp (maxSteps:=9^7) only [seval,evB,Zdp,h0,h1,h2]) | (simp (disch:=omega) only [dsB]))
   rw [Zpw (Zjl (by omega))]
  ·have h2 : ((dl a).length : Int) = (dl b).length:=by omega
   obtain ⟨r,hr,hp⟩:=ZsP (G:=G) (T:=T) .nil (dl a) (dl b) z y (ZaC a) (ZaC b) ha (by omega) (dl a).length (Nat.le_refl _)
    (by rw [List.drop_eq_nil_of_le (by omega),List.drop_eq_nil_of_le (by omega)])
   rw [ZaN,ZaN] at hp
   rw [h2] at hr
   rcases hp with ⟨e,rfl,he⟩ | ⟨rfl,he⟩
   ·repeat (first | (simp (maxSteps:=9^7) only [seval,evB,Zdp,h0,h1,h2,hr]) | (simp (disch:=omega) only [dsB]))
    rw [ZwG he]
   ·repeat (first | (simp (maxSteps:=9^7) only [seval,evB,Zdp,h0,h1,h2,hr]) | (simp (disch:=omega) only [dsB]))
theorem ZmK {a b : List Nat} {z y : Bool} (ha : Dg a) (hb : Dg b) (hs : a.length < 549755813888) (ht : b.length < 549755813888) : ∀ (m i : Nat) (h : Heap) (v : AV) (l : List Nat) (c : Int),
  m + i = max a.length b.length→Bld h v l→Dg l→l.length = i→0≤c∧c≤1→val l + 4294967296 ^ i * c.toNat = val (a.take i) + val (b.take i) →
  Post (evL G T ZeH [(0,D z a),(1,D y b),(5,v),(6,.int .u64 c),(7,.int .i64 (i : Int))] h) fun r =>
   ∃ e h' v' l' c',r = (.exit 0,(0,D z a) :: (1,D y b) :: (5,v') :: (6,.int .u64 c') :: e,h')∧Bld h' v' l'∧Dg l'∧l'.length = max a.length b.length∧0≤c'∧c'≤1∧val (l' ++ [c'.toNat]) = val a + val b
 | 0,i,h,v,l,c,hm,B,hd,hl,hc,he => by
  rw [Zaf G T (c:=ZeH) rfl]
  have h1 : ¬ (i : Int) < a.length:=by omega
  have h2 : ¬ (i : Int) < b.length:=by omega
  repeat (first | (simp (maxSteps:=9^7) only [seval,evB,ZcZ,h1,h2]) | (simp (disch:=omega) only [dsB]))
  refine Post.some ⟨_,_,_,_,_,rfl,B,hd,by omega,hc.1,hc.2,?_⟩
  rw [List.take_of_length_le (by omega),List.take_of_length_le (by omega)] at he
  rw [Zdn,hl,he]
 | m + 1,i,h,v,l,c,hm,B,hd,hl,hc,he => by
  rw [Zaf G T (c:=ZeH) rfl]
  have ha':=ha.dg i
  have hb':=hb.dg i
  have e7 : (i : Int) + 1 = ((i + 1 : Nat) : Int):=by omega
  by_cases h1 : (i : Int) < a.length
  ·by_cases h2 : (i : Int) < b.length
   ·repeat (first | (simp (maxSteps:=9^7) only [seval,evB,ZcZ,h1,h2 ]) | (simp (disch:=omega) only [dsB,Zkw B]))
    rw [e7]
    refine ZmK ha hb hs ht m (i + 1) _ _ _ _ (by omega) (ZcW B (by omega) (by omega)).2 (ZbV hd (by omega)) (by rw [List.length_append,hl]; rfl) (by omega) ?_
    rw [Zab,Zab]
    exact ZmL hl he (by omega)
   ·have hg : dg b i = 0:=ZiA (by omega)
    repeat (first | (simp (maxSteps:=9^7) only [seval,evB,ZcZ,h1,h2 ]) | (simp (disch:=omega) only [dsB,Zkw B]))
    rw [e7]
    refine ZmK ha hb hs ht m (i + 1) _ _ _ _ (by omega) (ZcW B (by omega) (by omega)).2 (ZbV hd (by omega)) (by rw [List.length_append,hl]; rfl) (by omega) ?_
    rw [Zab,Zab]
    exact ZmL hl he (by omega)
  ·have hg : dg a i = 0:=ZiA (by omega)
   by_cases h2 : (i : Int) < b.length
   ·repeat (first | (simp (maxSteps:=9^7) only [seval,evB,ZcZ,h1,h2 ]) | (simp (disch:=omega) only [dsB,Zkw B]))
    rw [e7]
    refine ZmK ha hb hs ht m (i + 1) _ _ _ _ (by omega) (ZcW B (by omega) (by omega)).2 (ZbV hd (by omega)) (by rw [List.length_append,hl]; rfl) (by omega) ?_
    rw [Zab,Zab]
    exact ZmL hl he (by omega)
   ·omega
theorem Zgv (J : Al G T g) {z y : Bool} {a b : Nat} (hs : (dl a).length < 549755813888) (ht : (dl b).length < 549755813888) : ∃ z',run G T 99 [D z (dl a),D y (dl b)] = some (D z' (dl (a + b))):=by
 apply exP
 rw [Zac G T J.B.Zgv]
 obtain ⟨r,hr,e,h',v',l',c',rfl,B,hd,hl,h0,h1,hv⟩:=ZmK (G:=G) (T:=T) (z:=z) (y:=y) (ZaC a) (ZaC b) hs ht (max (dl a).length (dl b).length) 0 .nil .nil [] 0 rfl Zpl Dg.nil rfl (by omega) rfl
 rw [cast0] at hr
 rw [ZaN,ZaN] at hv
 have hm : l'.length + 1 < 1099511627776:=by omega
 have hw : c' % 4294967296 = c':=by omega
 have B2:=(ZcW B (w:=c') (by omega) (by omega)).2
 obtain ⟨z',hz⟩:=ZdE J (z:=isN (.own (h'.b.length + 1) 0 (l'.length + 1) 1)) (ZbV hd (d:=c'.toNat) (by omega)) (by rw [List.length_append]; exact hm)
 rw [hv] at hz
 repeat (first | (simp (maxSteps:=9^7) only [seval,evB,Zim,hr,hw,B2.snap,hz ]) | (simp (disch:=omega) only [dsB,Zkw B]))
 exact Post.some ⟨_,rfl⟩
theorem Zna {l : List Nat} {i c x y d c' A A' : Nat} (hl : l.length = i) (he : val l + A' = A + 4294967296 ^ i * c) (hd : d + y + c = x + 4294967296 * c') :
  val (l ++ [d]) + (A' + 4294967296 ^ i * y) = (A + 4294967296 ^ i * x) + 4294967296 ^ (i + 1) * c':=by
 rw [Zdn,hl,Nat.pow_succ]
 generalize 4294967296 ^ i = p at *
 have : p * d + p * y + p * c = p * x + p * 4294967296 * c':=by rw [Nat.mul_assoc,← Nat.mul_add,← Nat.mul_add,hd,Nat.mul_add]
 omega
theorem ZkZ {a b : List Nat} {z y : Bool} (ha : Dg a) (hb : Dg b) (hs : a.length < 549755813888) : ∀ (m i : Nat) (h : Heap) (v : AV) (l : List Nat) (c : Int),
  m + i = a.length→Bld h v l→Dg l→l.length = i→0≤c∧c≤1→val l + val (b.take i) = val (a.take i) + 4294967296 ^ i * c.toNat →
  Post (evL G T ZeN [(0,D z a),(1,D y b),(5,v),(6,.int .u64 c),(7,.int .i64 (i : Int))] h) fun r =>
   ∃ e h' v' l' c',r = (.exit 0,(0,D z a) :: (1,D y b) :: (5,v') :: (6,.int .u64 c') :: e,h')∧Bld h' v' l'∧Dg l'∧l'.length = a.length∧val l' + val (b.take a.length) = val a + 4294967296 ^ a.length * c'.toNat
 | 0,i,h,v,l,c,hm,B,hd,hl,hc,he => by
  rw [Zaf G T (c:=ZeN) rfl]
  have h1 : ¬ (i : Int) < a.length:=by omega
  repeat (first | (simp (maxSteps:=9^7) only [seval,evB,Zcd,h1]) | (simp (disch:=omega) only [dsB]))
  have hi : i = a.length:=by omega
  subst hi
  refine Post.some ⟨_,_,_,_,_,rfl,B,hd,hl,?_⟩
  rw [List.take_length] at he; exact he
 | m + 1,i,h,v,l,c,hm,B,hd,hl,hc,he => by
  rw [Zaf G T (c:=ZeN) rfl]
  have ha':=ha.dg i
  have hb':=hb.dg i
  have e7 : (i : Int) + 1 = ((i + 1 : Nat) : Int):=by omega
  have h1 : (i : Int) < a.length:=by omega
  have w1 : (dg a i : Int) % 18446744073709551616 = dg a i:=by omega
  have w2 : (dg b i : Int) % 18446744073709551616 = dg b i:=by omega
  have w3 : (c + (dg b i : Int)) % 18446744073709551616 = c + dg b i:=by omega
  by_cases h2 : (i : Int) < b.length
  ·by_cases h3 : (dg a i : Int) < c + dg b i
   ·repeat (first | (simp (maxSteps:=9^7) only [seval,evB,Zcd,h1,h2,w1,w2,w3,h3 ]) | (simp (disch:=omega) only [dsB,Zkw B]))
    rw [e7]
    refine ZkZ ha hb hs m (i + 1) _ _ _ _ (by omega) (ZcW B (by omega) (by omega)).2 (ZbV hd (by omega)) (by rw [List.length_append,hl]; rfl) (by omega) ?_
    rw [Zab,Zab]
    exact Zna hl he (by omega)
   ·repeat (first | (simp (maxSteps:=9^7) only [seval,evB,Zcd,h1,h2,w1,w2,w3,h3 ]) | (simp (disch:=omega) only [dsB,Zkw B]))
    rw [e7]
    refine ZkZ ha hb hs m (i + 1) _ _ _ _ (by omega) (ZcW B (by omega) (by omega)).2 (ZbV hd (by omega)) (by rw [List.length_append,hl]; rfl) (by omega) ?_
    rw [Zab,Zab]
    exact Zna hl he (by omega)
  ·have hg : dg b i = 0:=ZiA (by omega)
   by_cases h3 : (dg a i : Int) < c
   ·repeat (first | (simp (maxSteps:=9^7) only [seval,evB,Zcd,h1,h2,w1,w2,w3,h3 ]) | (simp (disch:=omega) only [dsB,Zkw B]))
    rw [e7]
    refine ZkZ ha hb hs m (i + 1) _ _ _ _ (by omega) (ZcW B (by omega) (by omega)).2 (ZbV hd (by omega)) (by rw [List.length_append,hl]; rfl) (by omega) ?_
    rw [Zab,Zab]
    exact Zna hl he (by omega)
   ·repeat (first | (simp (maxSteps:=9^7) only [seval,evB,Zcd,h1,h2,w1,w2,w3,h3 ]) | (simp (disch:=omega) only [dsB,Zkw B]))
    rw [e7]
    refine ZkZ ha hb hs m (i + 1) _ _ _ _ (by omega) (ZcW B (by omega) (by omega)).2 (ZbV hd (by omega)) (by rw [List.length_append,hl]; rfl) (by omega) ?_
    rw [Zab,Zab]
    exact Zna hl he (by omega)
theorem ZjB (J : Al G T g) {z y : Bool} {a b : Nat} (hs : (dl a).length < 549755813888) (hab : b≤a) : ∃ z',run G T 101 [D z (dl a),D y (dl b)] = some (D z' (dl (a - b))):=by
 apply exP
 rw [Zac G T J.B.ZjB]
 obtain ⟨r,hr,e,h',v',l',c',rfl,B,hd,hl,hv⟩:=ZkZ (G:=G) (T:=T) (z:=z) (y:=y) (ZaC a) (ZaC b) hs (dl a).length 0 .nil .nil [] 0 rfl Zpl Dg.nil rfl (by omega) rfl
 rw [cast0] at hr
 have hbl : (dl b).length≤(dl a).length:=by
  rcases Nat.lt_or_ge (dl a).length (dl b).length with h | h
  ·have:=Zjl h; omega
  ·exact h
 rw [List.take_of_length_le hbl,ZaN,ZaN] at hv
 have hlt:=Zem hd
 rw [hl] at hlt
 have hc : c'.toNat = 0:=by
  rcases Nat.eq_zero_or_pos c'.toNat with h | h
  ·exact h
  ·have : 4294967296 ^ (dl a).length * 1≤4294967296 ^ (dl a).length * c'.toNat:=Nat.mul_le_mul_left _ h
   omega
 rw [hc,Nat.mul_zero] at hv
 obtain ⟨z',hz⟩:=ZdE J (z:=isN v') hd (by omega)
 rw [show val l' = a - b by omega] at hz
 repeat (first | (simp (maxSteps:=9^7) only [seval,evB,Zin,hr,B.snap,hz]) | (simp (disch:=omega) only [dsB]))
 exact Post.some ⟨_,rfl⟩
theorem ZsI {l : List Nat} {j q i c x d c' A S : Nat} (hl : l.length = j) (hj : j = q + i) (he : val l + 4294967296 ^ j * c = 4294967296 ^ q * S * A) (hd : d + 4294967296 * c' = c + x * S) :
  val (l ++ [d]) + 4294967296 ^ (j + 1) * c' = 4294967296 ^ q * S * (A + 4294967296 ^ i * x):=by
 subst hj
 rw [Zdn,hl,Nat.pow_succ,Nat.mul_add,← he]
 have e : 4294967296 ^ q * S * (4294967296 ^ i * x) = 4294967296 ^ (q + i) * (x * S):=by
  rw [Nat.pow_add]; simp only [Nat.mul_assoc,Nat.mul_left_comm,Nat.mul_comm]
 rw [e]
 generalize 4294967296 ^ (q + i) = p at *
 have : p * d + p * 4294967296 * c' = p * c + p * (x * S):=by rw [Nat.mul_assoc,← Nat.mul_add,hd,Nat.mul_add]
 omega
theorem ZGu {x s : Nat} (hx : x < 4294967296) (hs : s < 32) : x * 2 ^ s < 9223372036854775808∧2 ^ s≤2147483648:=by
 have h1 : (2 : Nat) ^ s≤2 ^ 31:=Nat.pow_le_pow_right (by decide) (by omega)
 have h2 : x * 2 ^ s≤4294967295 * 2 ^ 31:=Nat.mul_le_mul (by omega) h1
 omega
theorem Zbk (s : Nat) : ((2 : Int) ^ s) = ((2 ^ s : Nat) : Int):=by simp
theorem Zpv {c x s : Nat} (hc : c < 2 ^ s) (hx : x < 4294967296) : (c + x * 2 ^ s) / 4294967296 < 2 ^ s:=by
 have h2 : x * 2 ^ s≤4294967295 * 2 ^ s:=Nat.mul_le_mul (by omega) (Nat.le_refl _)
 generalize x * 2 ^ s = y at *
 generalize 2 ^ s = p at *
 omega
theorem ZvT {a : List Nat} {z : Bool} {q s : Nat} (ha : Dg a) (hs : s < 32) (hb : q + a.length < 549755813888) : ∀ (m i : Nat) (h : Heap) (v : AV) (l : List Nat) (c : Nat),
  m + i = a.length→Bld h v l→Dg l→l.length = q + i→c < 2 ^ s→val l + 4294967296 ^ (q + i) * c = 4294967296 ^ q * 2 ^ s * val (a.take i) →
  Post (evL G T ZfI [(0,D z a),(5,v),(6,.int .i64 (s : Int)),(7,.int .u64 (c : Int)),(8,.int .i64 (i : Int))] h) fun r =>
   ∃ e h' v' l',∃ c' : Nat,r = (.exit 0,(0,D z a) :: (5,v') :: (6,.int .i64 (s : Int)) :: (7,.int .u64 (c' : Int)) :: e,h')∧Bld h' v' l'∧Dg l'∧l'.length = q + a.length∧c' < 2 ^ s∧val (l' ++ [c']) = 4294967296 ^ q * 2 ^ s * val a
 | 0,i,h,v,l,c,hm,B,hd,hl,hc,he => by
  rw [Zaf G T (c:=ZfI) rfl]
  have h1 : ¬ (i : Int) < a.length:=by omega
  repeat (first | (simp (maxSteps:=9^7) only [seval,evB,Zio,h1]) | (simp (disch:=omega) only [dsB]))
  refine Post.some ⟨_,_,_,_,_,rfl,B,hd,by omega,hc,?_⟩
  rw [List.take_of_length_le (by omega)] at he
  rw [Zdn,hl,he]
 | m + 1,i,h,v,l,c,hm,B,hd,hl,hc,he => by
  rw [Zaf G T (c:=ZfI) rfl]
  have ha':=ha.dg i
  have e7 : (i : Int) + 1 = ((i + 1 : Nat) : Int):=by omega
  have h1 : (i : Int) < a.length:=by omega
  have hx:=ZGu ha' hs
  have hk:=Zpv hc ha'
  have w1 : (dg a i : Int) % 18446744073709551616 = dg a i:=by omega
  have w2 : min s 64 = s:=by omega
  have w3 : (dg a i : Int) * 2 ^ s % 18446744073709551616 = ((dg a i * 2 ^ s : Nat) : Int):=by
   rw [Zbk,← Int.natCast_mul]; omega
  have w4 : orI .u64 (c : Int) ((dg a i * 2 ^ s : Nat) : Int) = ((c + dg a i * 2 ^ s : Nat) : Int):=by
   rw [or64 (by omega) (by omega),ZlD hc]
  have w5 : ((c + dg a i * 2 ^ s : Nat) : Int) / 4294967296 = (((c + dg a i * 2 ^ s) / 4294967296 : Nat) : Int):=by omega
  repeat (first | (simp (maxSteps:=9^7) only [seval,evB,Zio,h1,w1,w2,w3,w4,w5 ]) | (simp (disch:=omega) only [dsB,Zkw B]))
  rw [e7]
  refine ZvT ha hs hb m (i + 1) _ _ _ _ (by omega) (ZcW B (by omega) (by omega)).2 (ZbV hd (by omega)) (by rw [List.length_append,hl]; rfl) hk ?_
  rw [Zab]
  refine ZsI (j:=q + i) (q:=q) (i:=i) hl rfl he ?_
  omega
theorem ZfQ (J : Al G T g) {z : Bool} {a n : Nat} (hs : (dl a).length < 137438953472) (hn : n < 1099511627776) : ∃ z',run G T 72 [D z (dl a),.int .i64 (n : Int)] = some (D z' (dl (a * 2 ^ n))):=by
 apply exP
 rw [Zac G T J.B.ZfQ]
 by_cases h0 : ((dl a).length : Int) = 0
 ·repeat (first | (simp (maxSteps:=9^7) only [seval,evB,ZhD,h0]) | (simp (disch:=omega) only [dsB]))
  have : a = 0:=Zfl.1 (List.length_eq_zero_iff.1 (by omega))
  subst this
  exact Post.some ⟨true,by rw [Nat.zero_mul,Zaq]; rfl⟩
 ·have hz : Dg (List.replicate (n / 32) 0):=Zjb _
  obtain ⟨r,hr,e,h',v',l',c',rfl,B,hd,hl,hc,hv⟩:=ZvT (G:=G) (T:=T) (z:=z) (q:=n / 32) (s:=n % 32) (ZaC a) (by omega) (by omega) (dl a).length 0 _ _ _ 0 rfl (ZCv FreH.nil (n / 32)) hz (by simp) (Nat.two_pow_pos _) (by
   have : ∀ k,val (List.replicate k 0) = 0:=fun k => by induction k with
    | zero => rfl
    | succ k ih => rw [List.replicate_succ,ZaJ,ih]
   simp [this,val])
  rw [cast0] at hr
  have hp : c' < 4294967296:=by
   have : (2 : Nat) ^ (n % 32)≤2 ^ 31:=Nat.pow_le_pow_right (by decide) (by omega)
   omega
  have hw : (c' : Int) % 4294967296 = c':=by omega
  have B2:=(ZcW B (w:=(c' : Int)) (by omega) (by omega)).2
  obtain ⟨z',hz⟩:=ZdE J (z:=isN (.own (h'.b.length + 1) 0 (l'.length + 1) 1)) (ZbV hd hp) (by rw [List.length_append]; simp only [List.length_cons,List.length_nil]; omega)
  rw [hv,ZaN,pow32,← Nat.pow_add,show 32 * (n / 32) + n % 32 = n by omega,Nat.mul_comm] at hz
  repeat (first | (simp (maxSteps:=9^7) only [seval,evB,ZhD,h0,hr,hw,B2.snap,Int.toNat_natCast,hz ]) | (simp (disch:=omega) only [dsB,Zkw B]))
  exact Post.some ⟨_,rfl⟩
theorem Zcb {x : Nat} (hx : x < 256) : strixA Zlh (.int .u8 (x : Int)) = some (.int .u8 ((blen x : Nat) : Int)):=by
 have key : ∀ x < 256,Zlh[x]? = some (blen x):=by decide +kernel
 simp only [strixA,Int.natCast_nonneg,if_true,Int.toNat_natCast,key x hx,Option.map_some]
theorem blen8 {x : Nat} (h : x < 256) : blen x≤8:=Zae.2 h
theorem ZjV (J : Al G T g) {x : Nat} (hx : x < 4294967296) : run G T 88 [.int .u32 (x : Int)] = some (.int .i64 ((blen x : Nat) : Int)):=by
 rw [Zac G T J.A.ZjV]
 have d16 : (x : Int) / 65536 = ((x / 65536 : Nat) : Int):=by omega
 have d8 : (x : Int) / 256 = ((x / 256 : Nat) : Int):=by omega
 have d24 : ((x / 65536 : Nat) : Int) / 256 = ((x / 16777216 : Nat) : Int):=by omega
 have b16:=Zam x 16
 have b8:=Zam x 8
 have b24:=Zam x 24
 have l16:=@ZaA x 16
 have l8:=@ZaA x 8
 have l24:=@ZaA x 24
 simp only [Nat.reducePow] at b16 b8 b24 l16 l8 l24
 by_cases h1 : (65536 : Int)≤x
 ·by_cases h2 : (256 : Int)≤((x / 65536 : Nat) : Int)
  ·have m : ((x / 16777216 : Nat) : Int) % 256 = ((x / 16777216 : Nat) : Int):=by omega
   have hb:=blen8 (x:=x / 16777216) (by omega)
   repeat (first | (simp (maxSteps:=9^7) only [seval,evB,Zcs,h1,h2,d16,d24,m,Zfv ]) | (simp (disch:=omega) only [dsB,Zcb]))
   exact congrArg (fun n : Int => some (AV.int .i64 n)) (by omega)
  ·have m : ((x / 65536 : Nat) : Int) % 256 = ((x / 65536 : Nat) : Int):=by omega
   have hb:=blen8 (x:=x / 65536) (by omega)
   repeat (first | (simp (maxSteps:=9^7) only [seval,evB,Zcs,h1,h2,d16,m,Zfv ]) | (simp (disch:=omega) only [dsB,Zcb]))
   exact congrArg (fun n : Int => some (AV.int .i64 n)) (by omega)
 ·by_cases h2 : (256 : Int)≤x
  ·have m : ((x / 256 : Nat) : Int) % 256 = ((x / 256 : Nat) : Int):=by omega
   have hb:=blen8 (x:=x / 256) (by omega)
   repeat (first | (simp (maxSteps:=9^7) only [seval,evB,Zcs,h1,h2,d8,m,Zfv ]) | (simp (disch:=omega) only [dsB,Zcb]))
   exact congrArg (fun n : Int => some (AV.int .i64 n)) (by omega)
  ·have m : (x : Int) % 256 = (x : Int):=by omega
   have hb:=blen8 (x:=x) (by omega)
   repeat (first | (simp (maxSteps:=9^7) only [seval,evB,Zcs,h1,h2,m,Zfv ]) | (simp (disch:=omega) only [dsB,Zcb]))
   exact congrArg (fun n : Int => some (AV.int .i64 n)) (by omega)
theorem ZfU (J : Al G T g) {x : Nat} (hx : x < 18446744073709551616) : run G T 53 [.int .u64 (x : Int)] = some (.int .i64 ((blen x : Nat) : Int)):=by
 rw [Zac G T J.A.ZfU]
 have d0_8 : (x : Int) / 256 = ((x / 256 : Nat) : Int):=by omega
 have d0_16 : (x : Int) / 65536 = ((x / 65536 : Nat) : Int):=by omega
 have d16_8 : ((x / 65536 : Nat) : Int) / 256 = ((x / 16777216 : Nat) : Int):=by omega
 have d0_32 : (x : Int) / 4294967296 = ((x / 4294967296 : Nat) : Int):=by omega
 have d32_8 : ((x / 4294967296 : Nat) : Int) / 256 = ((x / 1099511627776 : Nat) : Int):=by omega
 have d32_16 : ((x / 4294967296 : Nat) : Int) / 65536 = ((x / 281474976710656 : Nat) : Int):=by omega
 have d48_8 : ((x / 281474976710656 : Nat) : Int) / 256 = ((x / 72057594037927936 : Nat) : Int):=by omega
 have b8:=Zam x 8
 have l8:=@ZaA x 8
 simp only [Nat.reducePow] at b8 l8
 have b16:=Zam x 16
 have l16:=@ZaA x 16
 simp only [Nat.reducePow] at b16 l16
 have b24:=Zam x 24
 have l24:=@ZaA x 24
 simp only [Nat.reducePow] at b24 l24
 have b32:=Zam x 32
 have l32:=@ZaA x 32
 simp only [Nat.reducePow] at b32 l32
 have b40:=Zam x 40
 have l40:=@ZaA x 40
 simp only [Nat.reducePow] at b40 l40
 have b48:=Zam x 48
 have l48:=@ZaA x 48
 simp only [Nat.reducePow] at b48 l48
 have b56:=Zam x 56
 have l56:=@ZaA x 56
 simp only [Nat.reducePow] at b56 l56
 by_cases h1 : (4294967296 : Int)≤(x : Int)
 ·by_cases h2 : (65536 : Int)≤((x / 4294967296 : Nat) : Int)
  ·by_cases h3 : (256 : Int)≤((x / 281474976710656 : Nat) : Int)
   ·have m : ((x / 72057594037927936 : Nat) : Int) % 256 = ((x / 72057594037927936 : Nat) : Int):=by omega
    have hb:=blen8 (x:=x / 72057594037927936) (by omega)
    repeat (first | (simp (maxSteps:=9^7) only [seval,evB,Zbe,h1,h2,h3,d0_8,d0_16,d16_8,d0_32,d32_8,d32_16,d48_8,m,Zfv ]) | (simp (disch:=omega) only [dsB,Zcb]))
    exact congrArg (fun n : Int => some (AV.int .i64 n)) (by omega)
   ·have m : ((x / 281474976710656 : Nat) : Int) % 256 = ((x / 281474976710656 : Nat) : Int):=by omega
    have hb:=blen8 (x:=x / 281474976710656) (by omega)
    repeat (first | (simp (maxSteps:=9^7) only [seval,evB,Zbe,h1,h2,h3,d0_8,d0_16,d16_8,d0_32,d32_8,d32_16,d48_8,m,Zfv ]) | (simp (disch:=omega) only [dsB,Zcb]))
    exact congrArg (fun n : Int => some (AV.int .i64 n)) (by omega)
  ·by_cases h3 : (256 : Int)≤((x / 4294967296 : Nat) : Int)
   ·have m : ((x / 1099511627776 : Nat) : Int) % 256 = ((x / 1099511627776 : Nat) : Int):=by omega
    have hb:=blen8 (x:=x / 1099511627776) (by omega)
    repeat (first | (simp (maxSteps:=9^7) only [seval,evB,Zbe,h1,h2,h3,d0_8,d0_16,d16_8,d0_32,d32_8,d32_16,d48_8,m,Zfv ]) | (simp (disch:=omega) only [dsB,Zcb]))
    exact congrArg (fun n : Int => some (AV.int .i64 n)) (by omega)
   ·have m : ((x / 4294967296 : Nat) : Int) % 256 = ((x / 4294967296 : Nat) : Int):=by omega
    have hb:=blen8 (x:=x / 4294967296) (by omega)
    repeat (first | (simp (maxSteps:=9^7) only [seval,evB,Zbe,h1,h2,h3,d0_8,d0_16,d16_8,d0_32,d32_8,d32_16,d48_8,m,Zfv ]) | (simp (disch:=omega) only [dsB,Zcb]))
    exact congrArg (fun n : Int => some (AV.int .i64 n)) (by omega)
 ·by_cases h2 : (65536 : Int)≤(x : Int)
  ·by_cases h3 : (256 : Int)≤((x / 65536 : Nat) : Int)
   ·have m : ((x / 16777216 : Nat) : Int) % 256 = ((x / 16777216 : Nat) : Int):=by omega
    have hb:=blen8 (x:=x / 16777216) (by omega)
    repeat (first | (simp (maxSteps:=9^7) only [seval,evB,Zbe,h1,h2,h3,d0_8,d0_16,d16_8,d0_32,d32_8,d32_16,d48_8,m,Zfv ]) | (simp (disch:=omega) only [dsB,Zcb]))
    exact congrArg (fun n : Int => some (AV.int .i64 n)) (by omega)
   ·have m : ((x / 65536 : Nat) : Int) % 256 = ((x / 65536 : Nat) : Int):=by omega
    have hb:=blen8 (x:=x / 65536) (by omega)
    repeat (first | (simp (maxSteps:=9^7) only [seval,evB,Zbe,h1,h2,h3,d0_8,d0_16,d16_8,d0_32,d32_8,d32_16,d48_8,m,Zfv ]) | (simp (disch:=omega) only [dsB,Zcb]))
    exact congrArg (fun n : Int => some (AV.int .i64 n)) (by omega)
  ·by_cases h3 : (256 : Int)≤(x : Int)
   ·have m : ((x / 256 : Nat) : Int) % 256 = ((x / 256 : Nat) : Int):=by omega
    have hb:=blen8 (x:=x / 256) (by omega)
    repeat (first | (simp (maxSteps:=9^7) only [seval,evB,Zbe,h1,h2,h3,d0_8,d0_16,d16_8,d0_32,d32_8,d32_16,d48_8,m,Zfv ]) | (simp (disch:=omega) only [dsB,Zcb]))
    exact congrArg (fun n : Int => some (AV.int .i64 n)) (by omega)
   ·have m : (x : Int) % 256 = (x : Int):=by omega
    have hb:=blen8 (x:=x) (by omega)
    repeat (first | (simp (maxSteps:=9^7) only [seval,evB,Zbe,h1,h2,h3,d0_8,d0_16,d16_8,d0_32,d32_8,d32_16,d48_8,m,Zfv ]) | (simp (disch:=omega) only [dsB,Zcb]))
    exact congrArg (fun n : Int => some (AV.int .i64 n)) (by omega)
theorem Zaz {a : Nat} : (dl a).length = 0↔a = 0:=by rw [List.length_eq_zero_iff,Zfl]
theorem Zgu (J : Al G T g) {z : Bool} {a : Nat} (hm : mayL (dl a) = true) : run G T 49 [D z (dl a)] = some (.int .i64 ((blen a : Nat) : Int)):=by
 rw [Zac G T J.A.Zgu]
 have hl:=(ZaV.1 hm).1
 by_cases h0 : ((dl a).length : Int) = 0
 ·repeat (first | (simp (maxSteps:=9^7) only [seval,evB,Zje,Zby J,hm,h0]) | (simp (disch:=omega) only [dsB]))
  have e0 : a = 0:=Zaz.1 (by omega)
  subst e0; rfl
 ·have hd:=(ZaC a).dg ((dl a).length - 1)
  have e:=Zpt (n:=a) (by rintro rfl; exact h0 (by rw [Zaq]; rfl))
  have h32 : blen (dg (dl a) ((dl a).length - 1))≤32:=Zae.2 hd
  repeat (first | (simp (maxSteps:=9^7) only [seval,evB,Zje,Zby J,hm,h0,ZjV J hd]) | (simp (disch:=omega) only [dsB]))
  exact congrArg (fun n : Int => some (AV.int .i64 n)) (by omega)
theorem Zzi (h : Heap) : ∀ (x n : Nat),x < 4294967296→n + blen x < 1099511627776 →
  ∃ e,evL G T ZeJ [(3,.int .i64 (n : Int)),(4,.int .u32 (x : Int))] h = some (.exit 0,(3,.int .i64 ((n + blen x : Nat) : Int)) :: e,h):=by
 intro x
 induction x using Nat.strongRecOn with
 | _ x ih =>
  intro n hx hn
  by_cases h0 : (0 : Int) < x
  ·have hb:=Zam x 1
   have hp:=ZaS (n:=x) (by omega)
   rw [Nat.pow_one] at hb
   obtain ⟨e,he⟩:=ih (x / 2) (by omega) (n + 1) (by omega) (by omega)
   refine ⟨e,?_⟩
   rw [Zaf G T (c:=ZeJ) rfl]
   have d1 : (x : Int) / 2 = ((x / 2 : Nat) : Int):=by omega
   have d2 : (n : Int) + 1 = ((n + 1 : Nat) : Int):=by omega
   have : n + 1 + blen (x / 2) = n + blen x:=by omega
   repeat (first | (simp (maxSteps:=9^7) only [seval,evB,Zhm,h0,d1,d2]) | (simp (disch:=omega) only [dsB]))
   rw [he,this]
  ·have : x = 0:=by omega
   subst this
   refine ⟨[(4,.int .u32 0),(19,.bool false)],?_⟩
   rw [Zaf G T (c:=ZeJ) rfl]
   repeat (first | (simp (maxSteps:=9^7) only [seval,evB,Zhm,h0,cast0,Zal,Nat.add_zero,Int.lt_irrefl]) | (simp (disch:=omega) only [dsB]))
theorem Zeg (J : Al G T g) {z : Bool} {a : Nat} (hb : (dl a).length < 17179869184) : run G T 64 [D z (dl a)] = some (.int .i64 ((blen a : Nat) : Int)):=by
 rw [Zac G T J.B.Zeg]
 by_cases h0 : ((dl a).length : Int) = 0
 ·repeat (first | (simp (maxSteps:=9^7) only [seval,evB,Zgj,h0]) | (simp (disch:=omega) only [dsB]))
  have e0 : a = 0:=Zaz.1 (by omega)
  subst e0; rfl
 ·have hd:=(ZaC a).dg ((dl a).length - 1)
  have e:=Zpt (n:=a) (by rintro rfl; exact h0 (by rw [Zaq]; rfl))
  have h32 : blen (dg (dl a) ((dl a).length - 1))≤32:=Zae.2 hd
  obtain ⟨e',he⟩:=Zzi (G:=G) (T:=T) .nil (dg (dl a) ((dl a).length - 1)) (32 * ((dl a).length - 1)) hd (by omega)
  rw [← e] at he
  have m : 32 * (((dl a).length : Int) - 1) = ((32 * ((dl a).length - 1) : Nat) : Int):=by omega
  repeat (first | (simp (maxSteps:=9^7) only [seval,evB,Zgj,h0,m,he]) | (simp (disch:=omega) only [dsB]))
theorem Zpp (x : Nat) : x &&& 1 = x % 2:=Nat.and_one_is_mod x
theorem ZjA (J : Al G T g) {z : Bool} {a i : Nat} (hb : (dl a).length < 17179869184) (hi : i < 1099511627776) : run G T 111 [D z (dl a),.int .i64 (i : Int)] = some (.int .u32 ((a / 2 ^ i % 2 : Nat) : Int)):=by
 rw [Zac G T J.B.ZjA]
 have h0 : ¬ ((i : Int) < 0):=by omega
 have hw : IntKind.i64.wrap ((i / 32 : Nat) : Int) = ((i / 32 : Nat) : Int):=Zad (by omega)
 by_cases h1 : ((dl a).length : Int)≤((i / 32 : Nat) : Int)
 ·repeat (first | (simp (maxSteps:=9^7) only [seval,evB,Zgi,h0,hw,h1]) | (simp (disch:=omega) only [dsB]))
  have e:=Zwt a i
  rw [ZiA (by omega)] at e
  simp only [Nat.zero_div,Nat.zero_mod] at e
  rw [← e]; rfl
 ·have hd:=(ZaC a).dg (i / 32)
  have w2 : min (i % 32) 32 = i % 32:=by omega
  have hs:=Zuu (s:=i % 32) hd
  have w3 : (dg (dl a) (i / 32) : Int) / 2 ^ (i % 32) = ((dg (dl a) (i / 32) / 2 ^ (i % 32) : Nat) : Int):=by rw [Zbk]; rfl
  have w4 : andI .u32 ((dg (dl a) (i / 32) / 2 ^ (i % 32) : Nat) : Int) 1 = ((a / 2 ^ i % 2 : Nat) : Int):=by
   rw [← Zwt,← Zpp]
   exact and32 hs (b:=1) (by decide)
  repeat (first | (simp (maxSteps:=9^7) only [seval,evB,Zgi,h0,hw,h1,w2,w3,w4]) | (simp (disch:=omega) only [dsB]))
theorem Zzj (J : Al G T g) (h : Heap) {a : Nat} {z : Bool} (hb : (dl a).length < 17179869184) : ∀ (m n : Nat),m + n = 32 * (dl a).length→2 ^ n ∣ a→(n % 32 = 0∨dg (dl a) (n / 32)≠0) →
  Post (evL G T Zhn [(0,D z (dl a)),(3,.int .i64 (n : Int))] h) fun r =>
   ∃ (n' : Nat) (e : Env) (h' : Heap),r = (.exit 0,(0,D z (dl a)) :: (3,.int .i64 (n' : Int)) :: e,h')∧(n' = 32 * (dl a).length∧a = 0∨n' < 32 * (dl a).length∧tz a = n'):=by
 intro m
 induction m using Nat.strongRecOn with
 | _ m ih =>
  intro n hm hd hz
  rw [Zaf G T (c:=Zhn) rfl]
  have hBit:=ZjA J (z:=z) (a:=a) (i:=n) hb (by omega)
  have hw : IntKind.i64.wrap ((n / 32 : Nat) : Int) = ((n / 32 : Nat) : Int):=Zad (by omega)
  by_cases h0 : (n : Int) < 32 * (dl a).length
  ·by_cases h1 : ((a / 2 ^ n % 2 : Nat) : Int) = 0
   ·by_cases h2 : (dg (dl a) (n / 32) : Int) = 0
    ·have hn : n % 32 = 0:=by omega
     have e : (n : Int) + 32 = ((n + 32 : Nat) : Int):=by omega
     repeat (first | (simp (maxSteps:=9^7) only [seval,evB,Zdb,h0,h1,h2,hBit,hw,e]) | (simp (disch:=omega) only [dsB]))
     refine ih (m - 32) (by omega) (n + 32) (by omega) ?_ (by omega)
     obtain ⟨k,hk⟩:=hd
     have h3 : dg (dl a) (n / 32) = 0:=by omega
     rw [Zns (ZaC a),ZaN,pow32,show 32 * (n / 32) = n by omega] at h3
     have h4 : a / 2 ^ n = k:=by rw [hk,Nat.mul_div_cancel_left _ (Nat.two_pow_pos n)]
     rw [h4] at h3
     obtain ⟨j,hj⟩:=Nat.dvd_of_mod_eq_zero h3
     exact ⟨j,by rw [hk,hj,Nat.pow_add,Nat.mul_assoc]⟩
    ·have e : (n : Int) + 1 = ((n + 1 : Nat) : Int):=by omega
     repeat (first | (simp (maxSteps:=9^7) only [seval,evB,Zdb,h0,h1,h2,hBit,hw,e]) | (simp (disch:=omega) only [dsB]))
     refine ih (m - 1) (by omega) (n + 1) (by omega) ?_ ?_
     ·obtain ⟨k,hk⟩:=hd
      have h4 : a / 2 ^ n = k:=by rw [hk,Nat.mul_div_cancel_left _ (Nat.two_pow_pos n)]
      have h3 : k % 2 = 0:=by rw [← h4]; omega
      obtain ⟨j,hj⟩:=Nat.dvd_of_mod_eq_zero h3
      exact ⟨j,by rw [hk,hj,Nat.pow_succ,Nat.mul_assoc]⟩
     ·by_cases h5 : (n + 1) % 32 = 0
      ·exact Or.inl h5
      ·right; rw [show (n + 1) / 32 = n / 32 by omega]; omega
   ·repeat (first | (simp (maxSteps:=9^7) only [seval,evB,Zdb,h0,h1,hBit,hw]) | (simp (disch:=omega) only [dsB]))
    refine Post.some ⟨_,_,_,rfl,Or.inr ⟨by omega,?_⟩⟩
    obtain ⟨k,hk⟩:=hd
    have h4 : a / 2 ^ n = k:=by rw [hk,Nat.mul_div_cancel_left _ (Nat.two_pow_pos n)]
    rw [h4] at h1
    rw [hk,Nat.mul_comm]; exact Zei (by omega)
  ·repeat (first | (simp (maxSteps:=9^7) only [seval,evB,Zdb,h0,hBit,hw]) | (simp (disch:=omega) only [dsB]))
   refine Post.some ⟨_,_,_,rfl,Or.inl ⟨by omega,?_⟩⟩
   have hlt:=(ZbU (n:=a) (k:=(dl a).length)).1 (Nat.le_refl _)
   rw [pow32] at hlt
   rw [show n = 32 * (dl a).length by omega] at hd
   exact Nat.eq_zero_of_dvd_of_lt hd hlt
theorem ZlI (J : Al G T g) {a : Nat} {z : Bool} (hb : (dl a).length < 17179869184) : run G T 83 [D z (dl a)] = some (.int .i64 ((tz a : Nat) : Int)):=by
 rw [Zac G T J.B.ZlI]
 obtain ⟨r,hr,n',e,h',rfl,hp⟩:=Zzj (G:=G) J .nil (a:=a) (z:=z) hb (32 * (dl a).length) 0 (by omega) (by simp) (Or.inl rfl)
 rw [cast0] at hr
 rcases hp with ⟨h1,rfl⟩ | ⟨h1,h2⟩
 ·have h3 : (n' : Int) = 32 * (dl 0).length:=by omega
  rw [h3] at hr
  repeat (first | (simp (maxSteps:=9^7) only [seval,evB,Zgk,hr]) | (simp (disch:=omega) only [dsB]))
  rw [ZyY]; rfl
 ·have h3 : ¬ (n' : Int) = 32 * (dl a).length:=by omega
  repeat (first | (simp (maxSteps:=9^7) only [seval,evB,Zgk,hr,h3]) | (simp (disch:=omega) only [dsB]))
  rw [h2]
theorem ZFY : ∀ k < 32,ntz32[2 ^ k * 125613361 % 4294967296 / 134217728]? = some k:=by decide +kernel
theorem ZGl (J : Al G T g) (h : Mem) {k : Nat} (hk : k < 32) : rdAt G h 1 (.gptr g (2 ^ k * 125613361 % 4294967296 / 134217728)) = some [.int .u8 (k : Int)]:=by
 have e:=ZFY k hk
 generalize 2 ^ k * 125613361 % 4294967296 / 134217728 = i at *
 have hi:=(List.getElem?_eq_some_iff.1 e).1
 have e2 : (ntz32.map fun (d : Nat) => AV.int .u8 (d : Int))[i]? = some (.int .u8 (k : Int)):=by rw [List.getElem?_map,e]; rfl
 have hi2:=(List.getElem?_eq_some_iff.1 e2).1
 simp only [rdAt]
 rw [J.gl]
 simp only
 rw [if_pos (by omega),ZuT _ _ hi2,(List.getElem?_eq_some_iff.1 e2).2]
def tzOps (g : Nat) (c : Int) : List IOper:=[⟨some 5,.mov (.t 0),none⟩,⟨some 6,.mov (.t 0),none⟩,⟨some 7,.un .neg (.t 6),none⟩,⟨some 8,.bin .and (.t 5) (.t 7),none⟩,
 ⟨some 9,.bin .mul (.t 8) (.c (.int .u32 c)),none⟩,⟨some 10,.bin .shr (.t 9) (.c (.int .u64 27)),none⟩,⟨some 11,.iaddrA 32 1 (.g g) (.t 10),none⟩,
 ⟨some 12,.load false 1 (.t 11),none⟩,⟨some 13,.cvt .i64 (.t 12),none⟩,⟨some 2,.mov (.t 13),none⟩]
theorem ZyX (c : Int) {x y p i k : Nat} (w1 : (0 - (x : Int)) % 4294967296 = (y : Int)) (w2 : andI .u32 (x : Int) (y : Int) = (p : Int))
  (w3 : mulW (p : Int) c / 134217728 = (i : Int)) (w5 : iaddrAV 32 1 (.gptr g 0) (.int .u32 (i : Int)) = some (.gptr g i)) (w4 : rdAt G (Heap.mem .nil) 1 (.gptr g i) = some [.int .u8 (k : Int)]) (hk : k < 32) :
  evL G T (.reg (tzOps g c) [2] []) [(0,.int .u32 (x : Int)),(4,.bool false)] .nil = some (.norm,[(2,.int .i64 (k : Int))],.nil):=by
 repeat (first | (simp (maxSteps:=9^7) only [seval,evB,tzOps,w1,w2,w3,w4,w5]) | (simp (disch:=omega) only [dsB]))
theorem ZGL (J : Al G T g) {x y p i k : Nat} (hx : x < 4294967296) (h1 : ¬ (x : Int) = 0) (w1 : (0 - (x : Int)) % 4294967296 = (y : Int)) (w2 : andI .u32 (x : Int) (y : Int) = (p : Int))
  (w3 : mulW (p : Int) 125613361 / 134217728 = (i : Int)) (w5 : iaddrAV 32 1 (.gptr g 0) (.int .u32 (i : Int)) = some (.gptr g i)) (w4 : rdAt G (Heap.mem .nil) 1 (.gptr g i) = some [.int .u8 (k : Int)]) (hk : k < 32) :
  run G T 114 [.int .u32 (x : Int)] = some (.int .i64 (k : Int)):=by
 have hC:=ZyX (G:=G) (T:=T) (g:=g) 125613361 w1 w2 w3 w5 w4 hk
 have hB : evL G T (.seq (.reg [⟨some 3,.mov (.t 0),none⟩,⟨some 4,.bin .eql (.t 3) (.c (.int .u32 0)),none⟩] [0,4] []) (.cond (.t 4) (.seq (.reg [⟨some 2,.mov (.c (.int .i64 32)),none⟩] [2] []) .ret) .skip)) [(0,.int .u32 (x : Int))] .nil = some (.norm,[(0,.int .u32 (x : Int)),(4,.bool false)],.nil):=by
  repeat (first | (simp (maxSteps:=9^7) only [seval,evB,h1]) | (simp (disch:=omega) only [dsB]))
 have hA : evL G T (.reg [⟨some 2,.mov (.c (.int .i64 0)),none⟩] [0] []) (numE 0 [.int .u32 (x : Int)]) .nil = some (.norm,[(0,.int .u32 (x : Int))],.nil):=by
  repeat (first | (simp (maxSteps:=9^7) only [seval,evB]) | (simp (disch:=omega) only [dsB]))
 have e : (ZaZ g).body = .seq (.reg [⟨some 2,.mov (.c (.int .i64 0)),none⟩] [0] []) (.seq (.seq (.reg [⟨some 3,.mov (.t 0),none⟩,⟨some 4,.bin .eql (.t 3) (.c (.int .u32 0)),none⟩] [0,4] []) (.cond (.t 4) (.seq (.reg [⟨some 2,.mov (.c (.int .i64 32)),none⟩] [2] []) .ret) .skip)) (.seq (.reg (tzOps g 125613361) [2] []) .ret)):=rfl
 have e2 : (ZaZ g).res = [.tmp 2]:=rfl
 rw [Zac G T J.A.bits_TrailingZeros32,e,e2,Zyu,hA,ZnP,Zyu,hB,ZnP,Zyu,hC,ZnP,Zse]
 repeat (first | (simp (maxSteps:=9^7) only [seval,evB]) | (simp (disch:=omega) only [dsB]))
theorem ZCH (J : Al G T g) {x : Nat} (h0 : x≠0) (hx : x < 4294967296) : run G T 114 [.int .u32 (x : Int)] = some (.int .i64 ((tz x : Nat) : Int)):=by
 have ⟨hl,hk⟩:=Zso h0 hx
 obtain ⟨y,hy⟩ : ∃ y,y = 4294967296 - x:=⟨_,rfl⟩
 rw [← hy] at hl
 obtain ⟨i,hi⟩ : ∃ i,i = 2 ^ tz x * 125613361 % 4294967296 / 134217728:=⟨_,rfl⟩
 have w4:=ZGl J (Heap.mem .nil) hk
 rw [← hi] at w4
 refine ZGL J (y:=y) (p:=2 ^ tz x) (i:=i) hx (by omega) (by omega) ?_ ?_ ?_ w4 hk
 ·rw [and32 hx (by omega),hl]
 ·have hc : mulW ((2 ^ tz x : Nat) : Int) 125613361 = ((2 ^ tz x * 125613361 % 4294967296 : Nat) : Int):=by
   rw [Zsq,Int.natCast_emod,Int.natCast_mul]; simp only [Int.cast_ofNat_Int]
  rw [hc,hi,Int.natCast_ediv]; rfl
 ·simp only [iaddrAV]
  rw [if_pos (by omega),Int.toNat_natCast,Nat.mul_one,Nat.zero_add]
theorem ZnX (J : Al G T g) (h : Heap) {a : List Nat} {z : Bool} (hd : Dg a) (hs : a.length≤4096) : ∀ (m i : Nat),m + i = a.length→val (a.take i) = 0 →
  Post (evL G T ZgF [(8,D z a),(9,.int .i64 ((a.length : Nat) : Int)),(10,.int .i64 (i : Int))] h) fun r =>
   ∃ e h',r = (.exit 0,e,h')∧val a = 0∨r = (.ret,[(2,.int .i64 ((tz (val a) : Nat) : Int))],h')
 | 0,i,hm,hv => by
  rw [Zaf G T (c:=ZgF) rfl]
  have h1 : ¬ (i : Int) < a.length:=by omega
  repeat (first | (simp (maxSteps:=9^7) only [seval,evB,ZgE,h1]) | (simp (disch:=omega) only [dsB]))
  rw [List.take_of_length_le (by omega)] at hv
  exact Post.some ⟨_,_,Or.inl ⟨rfl,hv⟩⟩
 | m + 1,i,hm,hv => by
  rw [Zaf G T (c:=ZgF) rfl]
  have h1 : (i : Int) < a.length:=by omega
  have e : (i : Int) + 1 = ((i + 1 : Nat) : Int):=by omega
  by_cases h2 : (dg a i : Int) = 0
  ·repeat (first | (simp (maxSteps:=9^7) only [seval,evB,ZgE,h1,h2,e]) | (simp (disch:=omega) only [dsB]))
   exact ZnX J h hd hs m (i + 1) (by omega) (by rw [Zab,hv,show dg a i = 0 by omega,Nat.mul_zero])
  ·have ht:=ZCH (G:=G) J (x:=dg a i) (by omega) (hd.dg i)
   have hk:=(Zso (x:=dg a i) (by omega) (hd.dg i)).2
   have e2 : (32 * (i : Int) + ((tz (dg a i) : Nat) : Int)) = ((tz (val a) : Nat) : Int):=by
    rw [ZGJ hd (by omega) hv (by omega)]; omega
   repeat (first | (simp (maxSteps:=9^7) only [seval,evB,ZgE,h1,h2,e,ht,e2]) | (simp (disch:=omega) only [dsB]))
   exact Post.some ⟨[],_,Or.inr rfl⟩
theorem ZpX (J : Al G T g) {a : Nat} {z : Bool} (hm : mayL (dl a) = true) : run G T 90 [D z (dl a)] = some (.int .i64 ((tz a : Nat) : Int)):=by
 rw [Zac G T J.A.ZpX]
 obtain ⟨r,hr,e,h',hp⟩:=ZnX J .nil (z:=z) (ZaC a) (ZaV.1 hm).1 (dl a).length 0 (by omega) rfl
 rw [cast0] at hr
 rw [ZaN] at hp
 rcases hp with ⟨rfl,rfl⟩ | rfl
 ·repeat (first | (simp (maxSteps:=9^7) only [seval,evB,Zjf,Zby J,hm,hr]) | (simp (disch:=omega) only [dsB]))
  rw [ZyY]; rfl
 ·repeat (first | (simp (maxSteps:=9^7) only [seval,evB,Zjf,Zby J,hm,hr]) | (simp (disch:=omega) only [dsB]))
theorem Zvk {a i s : Nat} (hs : s < 32) : (dg (dl a) i / 2 ^ s ||| dg (dl a) (i + 1) * 2 ^ (32 - s)) % 4294967296 = a / 2 ^ (32 * i + s) % 4294967296:=by
 have e1:=Ztj (a / 4294967296 ^ i) hs
 rw [Nat.div_div_eq_div_mul,← Nat.pow_succ] at e1
 rw [Zns (ZaC a),Zns (ZaC a),ZaN,e1,pow32,Nat.div_div_eq_div_mul,← Nat.pow_add]
theorem ZtU (A p d : Nat) (hd : d = A / p % 4294967296) (hp : 0 < p) : A % p + p * d = A % (p * 4294967296):=by
 subst hd; rw [Nat.mod_mul]
theorem Zne {a : Nat} {z lost : Bool} {q s : Nat} (hs : s < 32) (hb : (dl a).length < 17179869184) : ∀ (m i : Nat) (h : Heap) (v : AV) (l : List Nat),
  m + q + i = (dl a).length→Bld h v l→Dg l→l.length = i→val l = a / 2 ^ (32 * q + s) % 4294967296 ^ i →
  Post (evL G T ZdL [(0,D z (dl a)),(6,.bool lost),(7,v),(8,.int .i64 (s : Int)),(9,.int .i64 ((q + i : Nat) : Int))] h) fun r =>
   ∃ e h' v' l',r = (.exit 0,(0,D z (dl a)) :: (6,.bool lost) :: (7,v') :: e,h')∧Bld h' v' l'∧Dg l'∧l'.length≤(dl a).length∧val l' = a / 2 ^ (32 * q + s)
 | 0,i,h,v,l,hm,B,hd,hl,he => by
  rw [Zaf G T (c:=ZdL) rfl]
  have h1 : ¬ ((q + i : Nat) : Int) < (dl a).length:=by omega
  repeat (first | (simp (maxSteps:=9^7) only [seval,evB,ZdK,h1]) | (simp (disch:=omega) only [dsB]))
  refine Post.some ⟨_,_,_,_,rfl,B,hd,by omega,?_⟩
  rw [he,Nat.mod_eq_of_lt]
  have hlt:=(ZbU (n:=a) (k:=(dl a).length)).1 (Nat.le_refl _)
  rw [Nat.div_lt_iff_lt_mul (Nat.two_pow_pos _),pow32,← Nat.pow_add]
  rw [pow32] at hlt
  exact Nat.lt_of_lt_of_le hlt (Nat.pow_le_pow_right (by decide) (by omega))
 | m + 1,i,h,v,l,hm,B,hd,hl,he => by
  rw [Zaf G T (c:=ZdL) rfl]
  have h1 : ((q + i : Nat) : Int) < (dl a).length:=by omega
  have hx:=(ZaC a).dg (q + i)
  have hy:=(ZaC a).dg (q + i + 1)
  have e7 : ((q + i : Nat) : Int) + 1 = ((q + i + 1 : Nat) : Int):=by omega
  have w1 : (dg (dl a) (q + i) : Int) % 18446744073709551616 = dg (dl a) (q + i):=by omega
  have w1' : (dg (dl a) (q + i + 1) : Int) % 18446744073709551616 = dg (dl a) (q + i + 1):=by omega
  have w2 : min s 64 = s:=by omega
  have w3 : (dg (dl a) (q + i) : Int) / 2 ^ s = ((dg (dl a) (q + i) / 2 ^ s : Nat) : Int):=by rw [Zbk]; rfl
  have w4 : (32 - (s : Int)) = ((32 - s : Nat) : Int):=by omega
  have w5 : min (32 - s) 64 = 32 - s:=by omega
  have p32 : (2 : Nat) ^ (32 - s)≤2 ^ 32:=Nat.pow_le_pow_right (by decide) (by omega)
  have q32 : dg (dl a) (q + i + 1) * 2 ^ (32 - s)≤4294967295 * 2 ^ 32:=Nat.mul_le_mul (by omega) p32
  have w6 : (dg (dl a) (q + i + 1) : Int) * 2 ^ (32 - s) % 18446744073709551616 = ((dg (dl a) (q + i + 1) * 2 ^ (32 - s) : Nat) : Int):=by
   rw [Zbk,← Int.natCast_mul]; omega
  have s3:=Zuu (s:=s) hx
  have w7 : orI .u64 ((dg (dl a) (q + i) / 2 ^ s : Nat) : Int) ((dg (dl a) (q + i + 1) * 2 ^ (32 - s) : Nat) : Int) = ((dg (dl a) (q + i) / 2 ^ s ||| dg (dl a) (q + i + 1) * 2 ^ (32 - s) : Nat) : Int) :=
   or64 (by omega) (by omega)
  have key:=Zvk (a:=a) (i:=q + i) hs
  have fin : ∀ d : Int,d = ((a / 2 ^ (32 * (q + i) + s) % 4294967296 : Nat) : Int)→val (l ++ [d.toNat]) = a / 2 ^ (32 * q + s) % 4294967296 ^ (i + 1):=by
   intro d hdd
   rw [Zdn,hl,he,hdd,Int.toNat_natCast,Nat.pow_succ]
   apply ZtU
   ·rw [pow32,Nat.div_div_eq_div_mul,← Nat.pow_add]; congr 3; omega
   ·rw [pow32]; exact Nat.two_pow_pos _
  by_cases h2 : ((q + i + 1 : Nat) : Int) < (dl a).length
  ·repeat (first | (simp (maxSteps:=9^7) only [seval,evB,ZdK,h1,h2,w1,w1',w2,w3,w4,w5,w6,w7,e7 ]) | (simp (disch:=omega) only [dsB,Zkw B]))
   exact Zne hs hb m (i + 1) _ _ _ (by omega) (ZcW B (by omega) (by omega)).2 (ZbV hd (by omega)) (by rw [List.length_append,hl]; rfl) (fin _ (by omega))
  ·rw [ZiA (l:=dl a) (i:=q + i + 1) (by omega),Nat.zero_mul,Nat.or_zero] at key
   repeat (first | (simp (maxSteps:=9^7) only [seval,evB,ZdK,h1,h2,w1,w1',w2,w3,w4,w5,w6,w7,e7 ]) | (simp (disch:=omega) only [dsB,Zkw B]))
   exact Zne hs hb m (i + 1) _ _ _ (by omega) (ZcW B (by omega) (by omega)).2 (ZbV hd (by omega)) (by rw [List.length_append,hl]; rfl) (fin _ (by omega))
theorem ZAq {a n : Nat} (h : a≠0) : tz a < n↔a % 2 ^ n≠0:=by
 have ⟨h1,h2⟩:=ZcY h
 constructor
 ·intro hn h0
  obtain ⟨k,hk⟩:=Nat.dvd_of_mod_eq_zero h0
  have e : a / 2 ^ tz a = 2 ^ (n - tz a) * k:=by
   have : a = 2 ^ tz a * (2 ^ (n - tz a) * k):=by rw [← Nat.mul_assoc,← Nat.pow_add,show tz a + (n - tz a) = n by omega]; exact hk
   exact Nat.div_eq_of_eq_mul_right (Nat.two_pow_pos _) this
  obtain ⟨j,hj⟩ : ∃ j,n - tz a = j + 1:=⟨n - tz a - 1,by omega⟩
  rw [e,hj,Nat.pow_succ,Nat.mul_assoc,Nat.mul_left_comm] at h2
  omega
 ·intro hn
  rcases Nat.lt_or_ge (tz a) n with h3 | h3
  ·exact h3
  ·exfalso; apply hn
   rw [h1]
   apply Nat.mod_eq_zero_of_dvd
   exact Nat.dvd_trans (Nat.pow_dvd_pow 2 h3) (Nat.dvd_mul_left ..)
theorem ZhM (J : Al G T g) {z : Bool} {a n : Nat} (hb : (dl a).length < 17179869184) (hn : n < 1099511627776) :
  ∃ z',run G T 84 [D z (dl a),.int .i64 (n : Int)] = some (.tup [D z' (dl (a / 2 ^ n)),.bool (!decide (a % 2 ^ n = 0))]):=by
 apply exP
 rw [Zac G T J.B.ZhM]
 have hL:=Zeg J (z:=z) hb
 have hlo:=ZlI J (z:=z) hb
 by_cases h0 : ((blen a : Nat) : Int)≤n
 ·have hlt : a < 2 ^ n:=Zae.1 (by omega)
  repeat (first | (simp (maxSteps:=9^7) only [seval,evB,Zfc,hL,h0]) | (simp (disch:=omega) only [dsB]))
  refine Post.some ⟨true,?_⟩
  rw [Nat.div_eq_of_lt hlt,Nat.mod_eq_of_lt hlt,Zaq,Zva]
  have : ((0 : Int) < ((dl a).length : Nat))↔¬ a = 0:=by
   have:=@Zaz a; omega
  simp only [this,decide_not]
 ·have hne : a≠0:=by rintro rfl; rw [Zal] at h0; omega
  have hr1 : n / 32≤(dl a).length:=by have:=Zaa a; omega
  obtain ⟨r,hr,e,h',v',l',rfl,B,hd,hl,hv⟩:=Zne (G:=G) (T:=T) (z:=z) (a:=a) (lost:=decide (((tz a : Nat) : Int) < n)) (q:=n / 32) (s:=n % 32) (by omega) hb ((dl a).length - n / 32) 0 .nil .nil [] (by omega) Zpl Dg.nil rfl (by rw [Nat.pow_zero,Nat.mod_one]; rfl)
  have hw : IntKind.i64.wrap ((n / 32 : Nat) : Int) = ((n / 32 : Nat) : Int):=Zad (by omega)
  rw [Nat.add_zero] at hr
  obtain ⟨z',hz⟩:=ZdE J (z:=isN v') hd (by omega)
  rw [hv,show 32 * (n / 32) + n % 32 = n by omega] at hz
  have ht : decide (((tz a : Nat) : Int) < n) = decide (a % 2 ^ n≠0):=by
   apply decide_eq_decide.2
   rw [← ZAq hne]; omega
  repeat (first | (simp (maxSteps:=9^7) only [seval,evB,Zfc,hL,hlo,h0,hw,hr,B.snap,hz]) | (simp (disch:=omega) only [dsB]))
  rw [ht,decide_not]
  exact Post.some ⟨z',rfl⟩
theorem Zqv {h : Heap} {b : Nat} {L : List Nat} (H : Holds h b L) (hd : Dg L) (hs : L.length < 1099511627776) : ∀ n : Nat,n≤L.length →
  ∃ (n' : Nat) (e' : Env),evL G T Zbq [(0,.own b 0 n 1)] h = some (.exit 0,(0,.own b 0 n' 1) :: e',h)∧n'≤L.length∧L.take n' = dl (val (L.take n))
 | 0,hn => by
  refine ⟨0,[(14,.bool false)],?_,hn,by rw [List.take_zero,Zqw,Zaq]⟩
  rw [Zaf G T (c:=Zbq) rfl]
  repeat (first | (simp (maxSteps:=9^7) only [seval,evB,ZbW,cast0,Int.lt_irrefl]) | (simp (disch:=omega) only [dsB]))
 | n + 1,hn => by
  have h0 : (0 : Int) < ((n + 1 : Nat) : Int):=by omega
  have e1 : ((n + 1 : Nat) : Int) - 1 = n:=by omega
  by_cases h1 : (dg L n : Int) = 0
  ·obtain ⟨n',e',ih,hk,ht⟩:=Zqv H hd hs n (by omega)
   refine ⟨n',e',?_,hk,?_⟩
   ·rw [Zaf G T (c:=Zbq) rfl]
    repeat (first | (simp (maxSteps:=9^7) only [seval,evB,ZbW,h0,e1,h1 ]) | (simp (disch:=omega) only [dsB,Zki,H,ZBU H.mem]))
    rw [ih]
   ·rw [ht,Zab,show dg L n = 0 by omega,Nat.mul_zero,Nat.add_zero]
  ·refine ⟨n + 1,[(14,.bool false)],?_,hn,?_⟩
   ·rw [Zaf G T (c:=Zbq) rfl]
    repeat (first | (simp (maxSteps:=9^7) only [seval,evB,ZbW,h0,e1,h1 ]) | (simp (disch:=omega) only [dsB,Zki,H]))
   ·rw [Ztk (hd.take _)]
    right
    have : (L.take (n + 1)).length = n + 1:=by rw [List.length_take]; omega
    rw [this,Nat.add_sub_cancel,Zfr (by omega),List.getElem_take,← Zfr]; omega
theorem Zqq {x s : Nat} (hs : s≤32) : x * 2 ^ s % 4294967296 = x % 2 ^ (32 - s) * 2 ^ s:=by
 have e : (4294967296 : Nat) = 2 ^ (32 - s) * 2 ^ s:=by rw [← Nat.pow_add,show 32 - s + s = 32 by omega]
 rw [e,Nat.mul_mod_mul_right]
theorem ZrB {x s : Nat} (hs : s≤32) : x / 2 ^ (32 - s) = x * 2 ^ s / 4294967296:=by
 have e : (4294967296 : Nat) = 2 ^ (32 - s) * 2 ^ s:=by rw [← Nat.pow_add,show 32 - s + s = 32 by omega]
 rw [e,Nat.mul_div_mul_right _ _ (Nat.two_pow_pos s)]
theorem ZyZ {a : List Nat} {z : Bool} {q s : Nat} (ha : Dg a) (hs : s < 32) (hb : q + a.length < 549755813888) : ∀ (m i : Nat) (h : Heap) (v : AV) (l : List Nat) (c : Nat),
  m + i = a.length→Bld h v l→Dg l→l.length = q + i→c < 2 ^ s→val l + 4294967296 ^ (q + i) * c = 4294967296 ^ q * 2 ^ s * val (a.take i) →
  Post (evL G T Zdo [(5,v),(6,.int .i64 (s : Int)),(7,.int .u32 (c : Int)),(24,D z a),(25,.int .i64 ((a.length : Nat) : Int)),(26,.int .i64 (i : Int))] h) fun r =>
   ∃ e h' v' l',∃ c' : Nat,r = (.exit 0,(5,v') :: (6,.int .i64 (s : Int)) :: (7,.int .u32 (c' : Int)) :: e,h')∧Bld h' v' l'∧Dg l'∧l'.length = q + a.length∧c' < 2 ^ s∧val (l' ++ [c']) = 4294967296 ^ q * 2 ^ s * val a
 | 0,i,h,v,l,c,hm,B,hd,hl,hc,he => by
  rw [Zaf G T (c:=Zdo) rfl]
  have h1 : ¬ (i : Int) < a.length:=by omega
  repeat (first | (simp (maxSteps:=9^7) only [seval,evB,Zgh,h1]) | (simp (disch:=omega) only [dsB]))
  refine Post.some ⟨_,_,_,_,_,rfl,B,hd,by omega,hc,?_⟩
  rw [List.take_of_length_le (by omega)] at he
  rw [Zdn,hl,he]
 | m + 1,i,h,v,l,c,hm,B,hd,hl,hc,he => by
  rw [Zaf G T (c:=Zdo) rfl]
  have ha':=ha.dg i
  have e7 : (i : Int) + 1 = ((i + 1 : Nat) : Int):=by omega
  have h1 : (i : Int) < a.length:=by omega
  have hk:=Zpv hc ha'
  have hp : (2 : Nat) ^ s≤2 ^ 31:=Nat.pow_le_pow_right (by decide) (by omega)
  have w1 : (dg a i : Int) % 18446744073709551616 = dg a i:=by omega
  have w2 : min s 32 = s:=by omega
  have w3 : (dg a i : Int) * 2 ^ s % 4294967296 = ((dg a i * 2 ^ s % 4294967296 : Nat) : Int):=by
   rw [Zbk,← Int.natCast_mul]; omega
  have w4 : orI .u32 ((dg a i * 2 ^ s % 4294967296 : Nat) : Int) (c : Int) = ((c + dg a i * 2 ^ s % 4294967296 : Nat) : Int):=by
   rw [or32 (by omega) (by omega),Nat.or_comm,Zqq (by omega),ZlD hc]
  have w5 : (32 - (s : Int)) = ((32 - s : Nat) : Int):=by omega
  have w6 : min (32 - s) 64 = 32 - s:=by omega
  have w7 : (dg a i : Int) / 2 ^ (32 - s) = ((dg a i / 2 ^ (32 - s) : Nat) : Int):=by rw [Zbk]; rfl
  have hsm : dg a i * 2 ^ s % 4294967296 + c < 4294967296:=by
   have e0:=Zqq (x:=dg a i) (s:=s) (by omega)
   have e1 : dg a i % 2 ^ (32 - s) < 2 ^ (32 - s):=Nat.mod_lt _ (Nat.two_pow_pos _)
   have e2 : (dg a i % 2 ^ (32 - s) + 1) * 2 ^ s≤2 ^ (32 - s) * 2 ^ s:=Nat.mul_le_mul_right _ e1
   rw [← Nat.pow_add,show 32 - s + s = 32 by omega,Nat.add_mul] at e2
   omega
  have hcd : (dg a i * 2 ^ s % 4294967296 + c) + 4294967296 * (dg a i * 2 ^ s / 4294967296) = c + dg a i * 2 ^ s:=by omega
  have hcl : dg a i * 2 ^ s / 4294967296 < 2 ^ s:=by
   refine Nat.lt_of_le_of_lt ?_ hk
   exact Nat.div_le_div_right (by omega)
  have w8 : ((dg a i / 2 ^ (32 - s) : Nat) : Int) % 4294967296 = ((dg a i * 2 ^ s / 4294967296 : Nat) : Int):=by
   rw [ZrB (by omega)]; omega
  repeat (first | (simp (maxSteps:=9^7) only [seval,evB,Zgh,h1,w1,w2,w3,w4,w5,w6,w7,w8 ]) | (simp (disch:=omega) only [dsB,Zkw B]))
  rw [e7]
  refine ZyZ ha hs hb m (i + 1) _ _ _ _ (by omega) (ZcW B (by omega) (by omega)).2 (ZbV hd (by omega)) (by rw [List.length_append,hl]; rfl) hcl ?_
  rw [Zab]
  refine ZsI (j:=q + i) (q:=q) (i:=i) hl rfl he ?_
  rw [Int.toNat_natCast,Nat.add_comm c]; exact hcd
theorem ZsJ (k : Nat) : val (List.replicate k 0) = 0:=by
 induction k with
 | zero => rfl
 | succ k ih => rw [List.replicate_succ,ZaJ,ih]
theorem Zri (J : Al G T g) {z : Bool} {a n : Nat} (hs : (dl a).length < 137438953472) (hn : n < 1099511627776) : ∃ z',run G T 91 [D z (dl a),.int .i64 (n : Int)] = some (D z' (dl (a * 2 ^ n))):=by
 apply exP
 rw [Zac G T J.A.Zri]
 by_cases h0 : ((dl a).length : Int) = 0
 ·repeat (first | (simp (maxSteps:=9^7) only [seval,evB,ZgM,h0]) | (simp (disch:=omega) only [dsB]))
  have : a = 0:=Zfl.1 (List.length_eq_zero_iff.1 (by omega))
  subst this
  exact Post.some ⟨true,by rw [Nat.zero_mul,Zaq]; rfl⟩
 ·have hnm : n / 32≤n / 32 + (dl a).length + 1:=by omega
  obtain ⟨r,hr,e,h',v',l',c',rfl,B,hd,hl,hc,hv⟩:=ZyZ (G:=G) (T:=T) (z:=z) (q:=n / 32) (s:=n % 32) (ZaC a) (by omega) (by omega) (dl a).length 0 _ _ _ 0 rfl (ZsO FreH.nil (n / 32) _ hnm) (Zjb _) (by simp) (Nat.two_pow_pos _) (by simp [ZsJ,val])
  rw [cast0] at hr
  have hp : c' < 4294967296:=by
   have : (2 : Nat) ^ (n % 32)≤2 ^ 31:=Nat.pow_le_pow_right (by decide) (by omega)
   omega
  have m1 : (((n / 32 : Nat) : Int) + ((dl a).length : Nat) + 1).toNat = n / 32 + (dl a).length + 1:=by omega
  obtain ⟨hap,HB,B2⟩:=ZkX B (w:=(c' : Int)) (by omega) (by omega)
  rw [Int.toNat_natCast] at HB
  have hd2:=ZbV hd hp
  have hlen : (l' ++ [c']).length = l'.length + 1:=by rw [List.length_append]; rfl
  obtain ⟨n',e',ht,hn',htk⟩:=Zqv (G:=G) (T:=T) HB hd2 (by omega) (l'.length + 1) (by omega)
  rw [← hlen,List.take_length,hv,ZaN,pow32,← Nat.pow_add,show 32 * (n / 32) + n % 32 = n by omega,Nat.mul_comm] at htk
  have hsn:=Zcq HB hn'
  rw [htk] at hsn
  have hw1 : IntKind.i64.wrap ((n / 32 : Nat) : Int) = ((n / 32 : Nat) : Int):=Zad (by omega)
  repeat (first | (simp (maxSteps:=9^7) only [seval,evB,ZgM,h0,hw1,m1,hr,hap,Zaw G T J.A.ZbM,ZfV,ht,hsn]) | (simp (disch:=omega) only [dsB]))
  exact Post.some ⟨_,rfl⟩
theorem Zdu {h : Heap} {b : Nat} {l : List Nat} (H : Holds h b l) {i x : Nat} (hi : i < l.length) : storeV h 1 (.ptr b i) (.int .u32 (x : Int)) = some (.tup [],put h b (l.set i x)):=by
 have:=ZDQ H (i:=i) (x:=(x : Int)) ⟨hi,Int.natCast_nonneg x⟩
 rw [Int.toNat_natCast] at this; exact this
theorem ZuU {l : List Nat} {i d : Nat} (h : i < l.length) : (l.set i d).take (i + 1) = l.take i ++ [d]:=by
 rw [ZjS (by rw [List.length_set]; exact h),Zfr (by rw [List.length_set]; exact h),List.getElem_set_self,List.take_set_of_le (Nat.le_refl _)]
theorem ZeZ {l : List Nat} {i d : Nat} (h : Dg l) (hd : d < 4294967296) : Dg (l.set i d):=fun x hx => by
 rcases List.mem_or_eq_of_mem_set hx with h1 | h1
 ·exact h x h1
 ·omega
theorem ZAQ {l : List Nat} {i d : Nat} (h : i < l.length) : dg (l.set i d) i = d:=by
 rw [Zfr (by rw [List.length_set]; exact h),List.getElem_set_self]
theorem Zzz {L : List Nat} (hd : Dg L) {i s : Nat} (hs : s < 32) : dg L i / 2 ^ s ||| dg L (i + 1) * 2 ^ (32 - s) % 4294967296 = val L / 2 ^ (32 * i + s) % 4294967296:=by
 have e1:=Ztj (val L / 4294967296 ^ i) hs
 rw [Nat.div_div_eq_div_mul,← Nat.pow_succ] at e1
 rw [← Zns hd,← Zns hd,Nat.div_div_eq_div_mul,pow32,← Nat.pow_add] at e1
 rw [← e1]
 have h:=Nat.or_mod_two_pow (a:=dg L i / 2 ^ s) (b:=dg L (i + 1) * 2 ^ (32 - s)) (n:=32)
 simp only [Nat.reducePow] at h
 rw [h,Nat.mod_eq_of_lt (Zuu (hd.dg i))]
theorem Znv {L : List Nat} {z : Bool} {s b : Nat} (hL : Dg L) (hs : s < 32) (hb : L.length < 17179869184) : ∀ (m i : Nat) (h : Heap) (l : List Nat),
  m + i = L.length→Holds h b l→Dg l→l.length = L.length→val (l.take i) = val L / 2 ^ s % 4294967296 ^ i →
  Post (evL G T ZfD [(0,D z L),(5,.int .i64 (s : Int)),(6,.own b 0 L.length 1),(23,D z L),(24,.int .i64 ((L.length : Nat) : Int)),(25,.int .i64 (i : Int))] h) fun r =>
   ∃ e h' l',r = (.exit 0,(0,D z L) :: (5,.int .i64 (s : Int)) :: (6,.own b 0 L.length 1) :: e,h')∧Holds h' b l'∧Dg l'∧l'.length = L.length∧val l' = val L / 2 ^ s
 | 0,i,h,l,hm,H,hd,hl,he => by
  rw [Zaf G T (c:=ZfD) rfl]
  have h1 : ¬ (i : Int) < L.length:=by omega
  repeat (first | (simp (maxSteps:=9^7) only [seval,evB,ZfC,h1]) | (simp (disch:=omega) only [dsB]))
  refine Post.some ⟨_,_,_,rfl,H,hd,hl,?_⟩
  rw [List.take_of_length_le (by omega)] at he
  rw [he,Nat.mod_eq_of_lt]
  refine Nat.lt_of_le_of_lt (Nat.div_le_self ..) ?_
  rw [show i = L.length by omega]; exact Zem hL
 | m + 1,i,h,l,hm,H,hd,hl,he => by
  rw [Zaf G T (c:=ZfD) rfl]
  have h1 : (i : Int) < L.length:=by omega
  have hx:=hL.dg i
  have hy:=hL.dg (i + 1)
  have e7 : (i : Int) + 1 = ((i + 1 : Nat) : Int):=by omega
  have w1 : (dg L (i + 1) : Int) % 18446744073709551616 = dg L (i + 1):=by omega
  have w2 : min s 32 = s:=by omega
  have w3 : (dg L i : Int) / 2 ^ s = ((dg L i / 2 ^ s : Nat) : Int):=by rw [Zbk]; rfl
  have w4 : (32 - (s : Int)) = ((32 - s : Nat) : Int):=by omega
  have w5 : min (32 - s) 64 = 32 - s:=by omega
  have p32 : (2 : Nat) ^ (32 - s)≤2 ^ 32:=Nat.pow_le_pow_right (by decide) (by omega)
  have q32 : dg L (i + 1) * 2 ^ (32 - s)≤4294967295 * 2 ^ 32:=Nat.mul_le_mul (by omega) p32
  have w6 : (dg L (i + 1) : Int) * 2 ^ (32 - s) % 18446744073709551616 % 4294967296 = ((dg L (i + 1) * 2 ^ (32 - s) % 4294967296 : Nat) : Int):=by
   rw [Zbk,← Int.natCast_mul]; omega
  have s3:=Zuu (s:=s) hx
  have w7 : orI .u32 ((dg L i / 2 ^ s : Nat) : Int) ((dg L (i + 1) * 2 ^ (32 - s) % 4294967296 : Nat) : Int) = ((dg L i / 2 ^ s ||| dg L (i + 1) * 2 ^ (32 - s) % 4294967296 : Nat) : Int) :=
   or32 s3 (by omega)
  have key:=Zzz hL (i:=i) hs
  have hil : i < l.length:=by omega
  have fin : ∀ d : Nat,d = val L / 2 ^ (32 * i + s) % 4294967296→val ((l.set i d).take (i + 1)) = val L / 2 ^ s % 4294967296 ^ (i + 1):=by
   intro d hdd
   rw [ZuU hil,Zdn,List.length_take,Nat.min_eq_left (by omega),he,Nat.pow_succ]
   apply ZtU
   ·rw [hdd,pow32,Nat.div_div_eq_div_mul,← Nat.pow_add,Nat.add_comm s]
   ·rw [pow32]; exact Nat.two_pow_pos _
  by_cases h2 : ((i + 1 : Nat) : Int) < L.length
  ·have H1:=H.put (l.set i (dg L i / 2 ^ s))
   have hi1 : i < (l.set i (dg L i / 2 ^ s)).length:=by rw [List.length_set]; exact hil
   repeat (first | (simp (maxSteps:=9^7) only [seval,evB,ZfC,h1,h2,w1,w2,w3,w4,w5,w6,w7,e7,ZAQ hil,Zjz,List.set_set ]) | (simp (disch:=omega) only [dsB,Zki,H1,Zdu H,Zdu H1]))
   refine Znv hL hs hb m (i + 1) _ _ (by omega) (H.put _) (ZeZ hd ?_) (by rw [List.length_set]; exact hl) (fin _ key)
   rw [key]; omega
  ·rw [ZiA (l:=L) (i:=i + 1) (by omega),Nat.zero_mul,Nat.zero_mod,Nat.or_zero] at key
   repeat (first | (simp (maxSteps:=9^7) only [seval,evB,ZfC,h1,h2,w1,w2,w3,w4,w5,w6,w7,e7 ]) | (simp (disch:=omega) only [dsB,Zdu H]))
   exact Znv hL hs hb m (i + 1) _ _ (by omega) (H.put _) (ZeZ hd s3) (by rw [List.length_set]; exact hl) (fin _ key)
theorem ZlA (J : Al G T g) {z : Bool} {a n : Nat} (hb : (dl a).length < 17179869184) (hn : n < 1099511627776) : ∃ z',run G T 89 [D z (dl a),.int .i64 (n : Int)] = some (D z' (dl (a / 2 ^ n))):=by
 apply exP
 rw [Zac G T J.A.ZlA]
 have hw : IntKind.i64.wrap ((n / 32 : Nat) : Int) = ((n / 32 : Nat) : Int):=Zad (by omega)
 by_cases h0 : ((dl a).length : Int)≤((n / 32 : Nat) : Int)
 ·repeat (first | (simp (maxSteps:=9^7) only [seval,evB,ZhC,hw,h0]) | (simp (disch:=omega) only [dsB]))
  refine Post.some ⟨true,?_⟩
  have h1 : blen a≤n:=by have:=Zaa a; omega
  rw [Nat.div_eq_of_lt (Zae.1 h1),Zaq]; rfl
 ·have hL : Dg ((dl a).drop (n / 32)):=(ZaC a).drop _
  have hlen : ((dl a).drop (n / 32)).length = (dl a).length - n / 32:=List.length_drop ..
  obtain ⟨r,hr,e,h',l',rfl,H,hd,hl,hv⟩:=Znv (G:=G) (T:=T) (z:=zz z (dl a)) (s:=n % 32) (b:=Heap.nil.b.length) hL (by omega) (by omega) ((dl a).drop (n / 32)).length 0 (new .nil (List.replicate ((dl a).drop (n / 32)).length 0)) _ (by omega) (ZbN FreH.nil _) (Zjb _) (by rw [List.length_replicate]) (by rw [Nat.pow_zero,Nat.mod_one]; rfl)
  rw [cast0] at hr
  have hsn:=Zcq H (n:=((dl a).drop (n / 32)).length) (by omega)
  rw [← hl,List.take_length] at hsn
  obtain ⟨z',hz⟩:=ZbM J (z:=false) hd (by omega)
  rw [hv,Znb (ZaC a),ZaN,pow32,Nat.div_div_eq_div_mul,← Nat.pow_add,show 32 * (n / 32) + n % 32 = n by omega] at hz
  rw [hl] at hsn
  repeat (first | (simp (maxSteps:=9^7) only [seval,evB,ZhC,hw,h0,hr,hsn,hz]) | (simp (disch:=omega) only [dsB]))
  exact Post.some ⟨_,rfl⟩
theorem Zee {a : Nat} (hm : mayL (dl a) = true) : blen a≤131072:=by
 have:=(ZaV.1 hm).1; have:=Zaa a; omega
theorem ZeX (J : Al G T g) {z : Bool} {a n : Nat} (hm : mayL (dl a) = true) (h0 : 0 < n) (hn : n < 1099511627776) :
  ∃ z',run G T 50 [D z (dl a),.int .i64 (-(n : Int))] = some (.tup [D z' (dl (a / 2 ^ n)),.bool (!decide (a % 2 ^ n = 0)),.int .i64 0]):=by
 apply exP
 rw [Zac G T J.A.nat_Shift]
 have hl:=(ZaV.1 hm).1
 have hbl:=Zee hm
 by_cases h1 : ((dl a).length : Int) = 0
 ·repeat (first | (simp (maxSteps:=9^7) only [seval,evB,Zcu,Zby J,hm,h1]) | (simp (disch:=omega) only [dsB]))
  have : a = 0:=Zaz.1 (by omega)
  subst this
  refine Post.some ⟨true,?_⟩
  simp [Zaq,Zva]
 ·have hne : a≠0:=by rintro rfl; exact h1 (by rw [Zaq]; rfl)
  by_cases h2 : -(n : Int) < -131072
  ·repeat (first | (simp (maxSteps:=9^7) only [seval,evB,Zcu,Zby J,hm,h1,h2]) | (simp (disch:=omega) only [dsB]))
   refine Post.some ⟨true,?_⟩
   have hlt : a < 2 ^ n:=Zae.1 (by omega)
   rw [Nat.div_eq_of_lt hlt,Nat.mod_eq_of_lt hlt,Zaq,Zva,decide_eq_false hne]; rfl
  ·have h3 : -(n : Int) < 0:=by omega
   have h4 : 0 - -(n : Int) = n:=by omega
   obtain ⟨z',hz⟩:=ZlA J (z:=z) (a:=a) (n:=n) (by omega) hn
   have ht : decide (((tz a : Nat) : Int) < n) = !decide (a % 2 ^ n = 0):=by
    rw [← decide_not]; apply decide_eq_decide.2
    rw [← ne_eq,← ZAq hne]; omega
   repeat (first | (simp (maxSteps:=9^7) only [seval,evB,Zcu,Zby J,hm,h1,h2,h3,h4,hz,ZpX J hm,ht]) | (simp (disch:=omega) only [dsB]))
   exact Post.some ⟨z',rfl⟩
theorem ZdD (J : Al G T g) {z : Bool} {a n : Nat} (hm : mayL (dl a) = true) (hn : a = 0∨n + blen a≤131072) (hn2 : n < 1099511627776) :
  ∃ z',run G T 50 [D z (dl a),.int .i64 (n : Int)] = some (.tup [D z' (dl (a * 2 ^ n)),.bool false,.int .i64 0]):=by
 apply exP
 rw [Zac G T J.A.nat_Shift]
 have hl:=(ZaV.1 hm).1
 have hbl:=Zee hm
 by_cases h1 : ((dl a).length : Int) = 0
 ·repeat (first | (simp (maxSteps:=9^7) only [seval,evB,Zcu,Zby J,hm,h1]) | (simp (disch:=omega) only [dsB]))
  have : a = 0:=Zaz.1 (by omega)
  subst this
  refine Post.some ⟨true,?_⟩
  simp [Zaq,Zva]
 ·have hne : a≠0:=by rintro rfl; exact h1 (by rw [Zaq]; rfl)
  have h2 : ¬ (n : Int) < -131072:=by omega
  have h3 : ¬ (n : Int) < 0:=by omega
  have h4 : ¬ (131072 - ((blen a : Nat) : Int)) < n:=by omega
  obtain ⟨z',hz⟩:=Zri J (z:=z) (a:=a) (n:=n) (by omega) (by omega)
  repeat (first | (simp (maxSteps:=9^7) only [seval,evB,Zcu,Zby J,hm,h1,h2,h3,h4,hz,Zgu J hm]) | (simp (disch:=omega) only [dsB]))
  exact Post.some ⟨z',rfl⟩
theorem ZnZ (J : Al G T g) {n : Nat} (hn : n < 18446744073709551616) : ∃ z',run G T 55 [.int .u64 (n : Int)] = some (D z' (dl n)):=by
 apply exP
 rw [Zac G T J.A.ZnZ]
 have w1 : (n : Int) % 4294967296 = ((n % 4294967296 : Nat) : Int):=by omega
 have w2 : (n : Int) / 4294967296 % 4294967296 = ((n / 4294967296 : Nat) : Int):=by omega
 have hd : Dg [n % 4294967296,n / 4294967296]:=Zen.2 ⟨by omega,Zen.2 ⟨by omega,Dg.nil⟩⟩
 have hv : val [n % 4294967296,n / 4294967296] = n:=by simp only [val]; omega
 obtain ⟨z',hz⟩:=ZbM J (z:=false) hd (by simp)
 rw [hv] at hz
 have hf : fillA (repA 2 [AV.int .u32 0]) [(0,1,.int .u32 ((n % 4294967296 : Nat) : Int)),(1,1,.int .u32 ((n / 4294967296 : Nat) : Int))] = some (cells [n % 4294967296,n / 4294967296]):=rfl
 have hok : (cells [n % 4294967296,n / 4294967296]).all okCell = true:=Ztg _
 have hsn : snapG (Heap.mem ⟨Heap.nil.b ++ [⟨cells [n % 4294967296,n / 4294967296],false⟩],Heap.nil.f⟩) 3 Heap.nil.b.length 0 2 1 = some (D false [n % 4294967296,n / 4294967296]) :=
  Zcq (ZbN FreH.nil [n % 4294967296,n / 4294967296]) (Nat.le_refl 2)
 repeat (first | (simp (maxSteps:=9^7) only [seval,evB,ZmM,w1,w2,hf,hok,hsn,hz]) | (simp (disch:=omega) only [dsB]))
 exact Post.some ⟨z',rfl⟩
theorem ZsQ (h : Heap) {a : List Nat} {z : Bool} (hd : Dg a) (hs : a.length≤2) : ∀ (m i c : Nat),m + i = a.length→c = val (a.take i) →
  ∃ e,evL G T ZgG [(4,.int .u64 (c : Int)),(15,D z a),(16,.int .i64 ((a.length : Nat) : Int)),(17,.int .i64 (i : Int))] h = some (.exit 0,(4,.int .u64 ((val a : Nat) : Int)) :: e,h)
 | 0,i,c,hm,hc => by
  refine ⟨[(15,D z a),(16,.int .i64 ((a.length : Nat) : Int)),(17,.int .i64 (i : Int)),(18,.bool false)],?_⟩
  rw [Zaf G T (c:=ZgG) rfl]
  have h1 : ¬ (i : Int) < a.length:=by omega
  rw [List.take_of_length_le (by omega)] at hc
  subst hc
  repeat (first | (simp (maxSteps:=9^7) only [seval,evB,Zjg,h1]) | (simp (disch:=omega) only [dsB]))
 | m + 1,i,c,hm,hc => by
  have ih:=ZsQ h (z:=z) hd hs m (i + 1) (c + 4294967296 ^ i * dg a i) (by omega) (by rw [Zab,hc])
  obtain ⟨e,he⟩:=ih
  refine ⟨e,?_⟩
  rw [Zaf G T (c:=ZgG) rfl]
  have h1 : (i : Int) < a.length:=by omega
  have hx:=hd.dg i
  have e7 : (i : Int) + 1 = ((i + 1 : Nat) : Int):=by omega
  have w1 : (dg a i : Int) % 18446744073709551616 = dg a i:=by omega
  have w2 : 32 * (i : Int) = ((32 * i : Nat) : Int):=by omega
  have w3 : min (32 * i) 64 = 32 * i:=by omega
  have hcl : c < 2 ^ (32 * i):=by rw [hc,← pow32]; exact ZoD hd i
  have hp : (2 : Nat) ^ (32 * i)≤2 ^ 32:=Nat.pow_le_pow_right (by decide) (by omega)
  have hm2 : dg a i * 2 ^ (32 * i)≤4294967295 * 2 ^ 32:=Nat.mul_le_mul (by omega) hp
  have w4 : (dg a i : Int) * 2 ^ (32 * i) % 18446744073709551616 = ((dg a i * 2 ^ (32 * i) : Nat) : Int):=by
   rw [Zbk,← Int.natCast_mul]; omega
  have w5 : orI .u64 (c : Int) ((dg a i * 2 ^ (32 * i) : Nat) : Int) = ((c + 4294967296 ^ i * dg a i : Nat) : Int):=by
   rw [or64 (by omega) (by omega),ZlD hcl,pow32,Nat.mul_comm]
  repeat (first | (simp (maxSteps:=9^7) only [seval,evB,Zjg,h1,w1,w2,w3,w4,w5,e7]) | (simp (disch:=omega) only [dsB]))
  rw [he]
theorem ZnY (J : Al G T g) {z : Bool} {a : Nat} (hs : a < 18446744073709551616) : run G T 51 [D z (dl a)] = some (.tup [.int .u64 (a : Int),.bool true]):=by
 rw [Zac G T J.A.ZnY]
 have hl : (dl a).length≤2:=ZbU.2 (by simpa using hs)
 have hm : mayL (dl a) = true:=ZaV.2 ⟨by omega,ZCx a⟩
 have h1 : ¬ (2 : Int) < (dl a).length:=by omega
 obtain ⟨e,he⟩:=ZsQ (G:=G) (T:=T) .nil (z:=z) (ZaC a) hl (dl a).length 0 0 (by omega) rfl
 rw [cast0,ZaN] at he
 repeat (first | (simp (maxSteps:=9^7) only [seval,evB,Zlc,Zby J,hm,h1,he]) | (simp (disch:=omega) only [dsB]))
end Go.Cv
namespace Go.Cv
variable {G : Nat→Option (List AV)} {T : Tbl} {g : Nat}
theorem ok_D (z : Bool) (l : List Nat) : okCell (D z l) = true:=by cases l <;> cases z <;> rfl
theorem Zvg (cs : List AV) : cellsA (.agg cs) = cs:=rfl
theorem Zzu (z : Bool) (l : List Nat) : cellsA (D z l) = [D z l]:=by cases l <;> cases z <;> rfl
theorem Zvh (k : IntKind) (n : Int) : cellsA (.int k n) = [.int k n]:=rfl
theorem ZrY (b : Bool) : cellsA (.bool b) = [.bool b]:=rfl
def B3 (n : Bool) (m : AV) (e : Int) : Blk:=⟨[.bool n,m,.int .i64 e],false⟩
def A3 (n : Bool) (m : AV) (e : Int) : AV:=.agg [.bool n,m,.int .i64 e]
theorem box3 (F : CallF) (n : Bool) (z : Bool) (l : List Nat) (x : Int) (v : AV) (d : Option Nat) (os : List IOper) (e : Env) (h : Heap) :
  kB G F (boxOk 3 (A3 n (D z l) x)) v (cellsA (A3 n (D z l) x)) d os e h = evOps G F os (putE d v e) ⟨h.b ++ [B3 n (D z l) x],h.f⟩:=by
 have : boxOk 3 (A3 n (D z l) x) = true:=by
  have e1 : okCell (.bool n) = true:=rfl
  have e2 : okCell (.int .i64 x) = true:=rfl
  simp [boxOk,A3,Zvg,e1,e2,ok_D]
 rw [this,Zsl]; rfl
section
variable {h : Mem} {b : Nat} {n : Bool} {m : AV} {e : Int}
theorem ld0 (H : h b = some (B3 n m e)) : rdAt G h 1 (.ptr b 0) = some [.bool n]:=by simp [rdAt,rdBlk,H,B3]
theorem ld1 (H : h b = some (B3 n m e)) : rdAt G h 1 (.ptr b 1) = some [m]:=by simp [rdAt,rdBlk,H,B3]
theorem ld2 (H : h b = some (B3 n m e)) : rdAt G h 1 (.ptr b 2) = some [.int .i64 e]:=by simp [rdAt,rdBlk,H,B3]
theorem ld3 (H : h b = some (B3 n m e)) : rdAt G h 3 (.ptr b 0) = some [.bool n,m,.int .i64 e]:=by simp [rdAt,rdBlk,H,B3]
end
theorem mem0 (b : Blk) (bs : List Blk) (f : List Nat) : Heap.mem ⟨b :: bs,f⟩ 0 = some b:=rfl
theorem mem1 (a b : Blk) (bs : List Blk) (f : List Nat) : Heap.mem ⟨a :: b :: bs,f⟩ 1 = some b:=rfl
theorem mem2 (a b c : Blk) (bs : List Blk) (f : List Nat) : Heap.mem ⟨a :: b :: c :: bs,f⟩ 2 = some c:=rfl
theorem ZnQ {n : Bool} {m : AV} {e : Int} {bs : List Blk} {f : List Nat} : rdAt G (Heap.mem ⟨B3 n m e :: bs,f⟩) 1 (.ptr 0 0) = some [.bool n]:=ld0 (mem0 ..)
theorem ZnR {n : Bool} {m : AV} {e : Int} {bs : List Blk} {f : List Nat} : rdAt G (Heap.mem ⟨B3 n m e :: bs,f⟩) 1 (.ptr 0 1) = some [m]:=ld1 (mem0 ..)
theorem ZnS {n : Bool} {m : AV} {e : Int} {bs : List Blk} {f : List Nat} : rdAt G (Heap.mem ⟨B3 n m e :: bs,f⟩) 1 (.ptr 0 2) = some [.int .i64 e]:=ld2 (mem0 ..)
theorem Zvt {n : Bool} {m : AV} {e : Int} {bs : List Blk} {f : List Nat} : rdAt G (Heap.mem ⟨B3 n m e :: bs,f⟩) 3 (.ptr 0 0) = some [.bool n,m,.int .i64 e]:=ld3 (mem0 ..)
def mayD (n : Bool) (l : List Nat) (e : Int) : Bool:=mayL l && (if l.length = 0 then (!n && decide (e = 0)) else (decide (dg l 0 % 2 = 1) && (decide (-16777216≤e) && decide (e≤16777216))))
theorem ZiC (J : Al G T g) (e : Int) : run G T 87 [.int .i64 e] = some (.bool (decide (-16777216≤e) && decide (e≤16777216))):=by
 rw [Zac G T J.C.ZiC]
 by_cases h3 : (-16777216 : Int)≤e
 ·repeat (first | (simp (maxSteps:=9^7) only [seval,evB,ZdH,h3]) | (simp (disch:=omega) only [dsB]))
  try simp
 ·repeat (first | (simp (maxSteps:=9^7) only [seval,evB,ZdH,h3]) | (simp (disch:=omega) only [dsB]))
  try simp
theorem Zdl (J : Al G T g) (n z : Bool) {l : List Nat} (hd : Dg l) (e : Int) : run G T 48 [A3 n (D z l) e] = some (.bool (mayD n l e)):=by
 rw [Zac G T J.C.Zdl]
 by_cases h0 : mayL l = true
 ·by_cases h1 : (l.length : Int) = 0
  ·have h1' : l.length = 0:=by omega
   cases n
   ·repeat (first | (simp (maxSteps:=9^7) only [seval,evB,Zdv,box3,nilb,nilf,List.length_nil,ZcX,Nat.zero_add,ZnQ,ZnR,ZnS,Zby J,h0,h1]) | (simp (disch:=omega) only [dsB]))
    simp [mayD,h0,h1']
   ·repeat (first | (simp (maxSteps:=9^7) only [seval,evB,Zdv,box3,nilb,nilf,List.length_nil,ZcX,Nat.zero_add,ZnQ,ZnR,ZnS,Zby J,h0,h1]) | (simp (disch:=omega) only [dsB]))
    simp [mayD,h0,h1']
  ·have h1' : ¬ l.length = 0:=by omega
   have hx:=hd.dg 0
   have w1 : andI .u32 (dg l 0 : Int) 1 = ((dg l 0 % 2 : Nat) : Int):=by
    rw [← Zpp]; exact and32 hx (b:=1) (by decide)
   by_cases h2 : ((dg l 0 % 2 : Nat) : Int) = 1
   ·have h2' : dg l 0 % 2 = 1:=by omega
    repeat (first | (simp (maxSteps:=9^7) only [seval,evB,Zdv,box3,nilb,nilf,List.length_nil,ZcX,Nat.zero_add,ZnQ,ZnR,ZnS,Zby J,ZiC J,h0,h1,w1,h2]) | (simp (disch:=omega) only [dsB]))
    simp only [mayD,h0,h1',h2',if_false,decide_true,Bool.true_and]
   ·have h2' : ¬ dg l 0 % 2 = 1:=by omega
    repeat (first | (simp (maxSteps:=9^7) only [seval,evB,Zdv,box3,nilb,nilf,List.length_nil,ZcX,Nat.zero_add,ZnQ,ZnR,ZnS,Zby J,ZiC J,h0,h1,w1,h2]) | (simp (disch:=omega) only [dsB]))
    simp only [mayD,h0,h1',h2',if_false,decide_false,Bool.false_and,Bool.and_false]
 ·repeat (first | (simp (maxSteps:=9^7) only [seval,evB,Zdv,box3,nilb,nilf,List.length_nil,ZcX,Nat.zero_add,ZnQ,ZnR,ZnS,Zby J,h0]) | (simp (disch:=omega) only [dsB]))
  simp [mayD,h0]
end Go.Cv
namespace Go.Cv
variable {G : Nat→Option (List AV)} {T : Tbl} {g : Nat}
structure Dy where
 n : Bool
 m : Nat
 e : Int
def mkD (n : Bool) (m : Nat) (e : Int) : Dy:=if m = 0 then ⟨false,0,0⟩ else ⟨n,m / 2 ^ tz m,e + tz m⟩
def DyA (z : Bool) (d : Dy) : AV:=A3 d.n (D z (dl d.m)) d.e
theorem allocB (F : CallF) (d : Option Nat) (os : List IOper) (e : Env) (h : Heap) : evOps G F (⟨d,.alloc [.bool false,.nil,.int .i64 0],none⟩ :: os) e h = evOps G F os (putE d (.ptr h.b.length 0) e) ⟨h.b ++ [B3 false .nil 0],h.f⟩:=Zqs G F d os e h _
theorem build0 (F : CallF) (d : Option Nat) (os : List IOper) (e : Env) (h : Heap) : evOps G F (⟨d,.build [.bool false,.nil,.int .i64 0] [],none⟩ :: os) e h = evOps G F os (putE d (A3 false .nil 0) e) h:=by
 rw [ZlW]; rfl
theorem fill3 (n z : Bool) (l : List Nat) (x : Int) : fillA [.bool false,.nil,.int .i64 0] [(0,1,.bool n),(1,1,D z l),(2,1,.int .i64 x)] = some [.bool n,D z l,.int .i64 x]:=by
 have e1 : okCell (.bool n) = true:=rfl
 have e2 : okCell (.int .i64 x) = true:=rfl
 simp [fillA,ZrY,Zzu,Zvh,e1,e2,ok_D,setAt]
theorem ZhT (F : CallF) (d : Option Nat) (a b c : IOpd) (os : List IOper) (e : Env) (h : Heap) : evOps G F (⟨d,.build [.bool false,.nil,.int .i64 0] [(0,1,a),(1,1,b),(2,1,c)],none⟩ :: os) e h =
  kV G F ((fillA [.bool false,.nil,.int .i64 0] [(0,1,opd e a),(1,1,opd e b),(2,1,opd e c)]).map .agg) d os e h:=ZlW G F d os e h _ _
theorem store3 {h : Heap} {b : Nat} {n0 n z : Bool} {m0 : AV} {x0 x : Int} {l : List Nat} (hb : h.b[b]? = some (B3 n0 m0 x0)) (hf : h.f.contains b = false) :
  storeV h 3 (.ptr b 0) (A3 n (D z l) x) = some (.tup [],⟨h.b.set b (B3 n (D z l) x),h.f⟩):=by
 have e1 : okCell (.bool n) = true:=rfl
 have e2 : okCell (.int .i64 x) = true:=rfl
 have e : cellsA (A3 n (D z l) x) = [.bool n,D z l,.int .i64 x]:=rfl
 rw [storeV,e,if_pos ⟨rfl,by simp [e1,e2,ok_D]⟩,wrBlk,hb]
 simp only [B3]
 rw [if_pos ⟨trivial,hf,by simp⟩]
 simp [setAt]
theorem ZiU {n0 n z : Bool} {m0 : AV} {x0 x : Int} {l : List Nat} (bs : List Blk) : storeV ⟨B3 n0 m0 x0 :: bs,[]⟩ 3 (.ptr 0 0) (A3 n (D z l) x) = some (.tup [],⟨B3 n (D z l) x :: bs,[]⟩) :=
 store3 (h:=⟨B3 n0 m0 x0 :: bs,[]⟩) rfl rfl
theorem ZhU {n0 n : Bool} {m0 : AV} {x0 x : Int} (bs : List Blk) : storeV ⟨B3 n0 m0 x0 :: bs,[]⟩ 3 (.ptr 0 0) (A3 n .nil x) = some (.tup [],⟨B3 n .nil x :: bs,[]⟩) :=
 ZiU (z:=true) (l:=[]) bs
theorem agg3 (n : Bool) (m : AV) (x : Int) : AV.agg [.bool n,m,.int .i64 x] = A3 n m x:=rfl
theorem ZkQ (g : Nat→Nat→Nat→Nat→Option AV) (n z : Bool) (l : List Nat) (x : Int) : snapA g (A3 n (D z l) x) = some (A3 n (D z l) x):=by
 simp only [A3,Zuz,Zox,Zqr,sn_D,ZrE,Zuw,ZhG,Option.map_some]
theorem Zkr (g : Nat→Nat→Nat→Nat→Option AV) (n : Bool) (x : Int) : snapA g (A3 n .nil x) = some (A3 n .nil x):=ZkQ g n true [] x
theorem Zbv (J : Al G T g) {n z : Bool} {a : Nat} {e : Int} (hs : (dl a).length < 17179869184) (he : -1099511627776 < e∧e < 1099511627776) :
  ∃ z',run G T 45 [.bool n,D z (dl a),.int .i64 e] = some (DyA z' (mkD n a e)):=by
 apply exP
 rw [Zac G T J.C.Zbv]
 by_cases h0 : ((dl a).length : Int) = 0
 ·repeat (first | (simp (maxSteps:=9^7) only [seval,evB,Zfe,nilb,nilf,List.length_nil,ZcX,Nat.zero_add,ZnQ,ZnR,ZnS,Zvt,allocB,build0,ZhT,ZiU,ZhU,Zhd,Zhc,agg3,ZkQ,Zkr,fill3,h0]) | (simp (disch:=omega) only [dsB]))
  have : a = 0:=Zaz.1 (by omega)
  subst this
  refine Post.some ⟨true,?_⟩
  simp [mkD,DyA,Zaq,Zva]
 ·have hne : a≠0:=by rintro rfl; exact h0 (by rw [Zaq]; rfl)
  have htz : tz a < 1099511627776:=by
   have h1:=(ZAq (n:=blen a) hne).2 (by rw [Nat.mod_eq_of_lt (ZaH a)]; exact hne)
   have:=Zaa a; omega
  obtain ⟨z',hz⟩:=ZhM J (z:=z) (a:=a) (n:=tz a) hs htz
  repeat (first | (simp (maxSteps:=9^7) only [seval,evB,Zfe,nilb,nilf,List.length_nil,ZcX,Nat.zero_add,ZnQ,ZnR,ZnS,Zvt,allocB,build0,ZhT,ZiU,ZhU,Zhd,Zhc,agg3,ZkQ,Zkr,fill3,h0,ZlI J hs,hz]) | (simp (disch:=omega) only [dsB]))
  refine Post.some ⟨z',?_⟩
  simp only [mkD,DyA,hne,if_false]
theorem Zfu {a : Nat} (hne : a≠0) : tz a < blen a:=(ZAq (n:=blen a) hne).2 (by rw [Nat.mod_eq_of_lt (ZaH a)]; exact hne)
theorem ZbQ (J : Al G T g) {n z : Bool} {a : Nat} {e : Int} (hm : mayL (dl a) = true) (he : a = 0∨(-16777216≤e + tz a∧e + tz a≤16777216)) (he2 : -1099511627776 < e∧e < 1099511627776) :
  ∃ z',run G T 54 [.bool n,D z (dl a),.int .i64 e] = some (.tup [DyA z' (mkD n a e),.int .i64 0]):=by
 apply exP
 rw [Zac G T J.C.ZbQ]
 have hl:=(ZaV.1 hm).1
 by_cases h0 : ((dl a).length : Int) = 0
 ·repeat (first | (simp (maxSteps:=9^7) only [seval,evB,Zgc,nilb,nilf,List.length_nil,ZcX,Nat.zero_add,ZnQ,ZnR,ZnS,Zvt,allocB,build0,ZhT,ZiU,ZhU,Zhd,Zhc,agg3,ZkQ,Zkr,fill3,Zby J,hm,h0]) | (simp (disch:=omega) only [dsB]))
  have : a = 0:=Zaz.1 (by omega)
  subst this
  refine Post.some ⟨true,?_⟩
  simp [mkD,DyA,Zaq,Zva]
 ·have hne : a≠0:=by rintro rfl; exact h0 (by rw [Zaq]; rfl)
  have htz:=Zfu hne
  have hbl:=Zee hm
  have h1 : ¬ (16777216 - ((tz a : Nat) : Int)) < e:=by omega
  have h2 : ¬ e < -16777216 - ((tz a : Nat) : Int):=by omega
  have hz : ∃ z' fl,run G T 50 [D z (dl a),.int .i64 (0 - ((tz a : Nat) : Int))] = some (.tup [D z' (dl (a / 2 ^ tz a)),.bool fl,.int .i64 0]):=by
   rcases Nat.eq_zero_or_pos (tz a) with ht | ht
   ·rw [ht]
    obtain ⟨z',hz⟩:=ZdD (G:=G) J (z:=z) (a:=a) (n:=0) hm (by omega) (by omega)
    exact ⟨z',false,by simpa using hz⟩
   ·obtain ⟨z',hz⟩:=ZeX (G:=G) J (z:=z) (a:=a) (n:=tz a) hm ht (by omega)
    exact ⟨z',_,by rw [Int.zero_sub]; exact hz⟩
  obtain ⟨z',fl,hz⟩:=hz
  repeat (first | (simp (maxSteps:=9^7) only [seval,evB,Zgc,nilb,nilf,List.length_nil,ZcX,Nat.zero_add,ZnQ,ZnR,ZnS,Zvt,allocB,build0,ZhT,ZiU,ZhU,Zhd,Zhc,agg3,ZkQ,Zkr,fill3,Zby J,hm,h0,ZpX J hm,h1,h2,hz]) | (simp (disch:=omega) only [dsB]))
  refine Post.some ⟨z',?_⟩
  simp only [mkD,DyA,hne,if_false]
end Go.Cv
namespace Go.Cv
variable {G : Nat→Option (List AV)} {T : Tbl} {g : Nat}
section
variable (a : Blk) {n : Bool} {m : AV} {e : Int} {bs : List Blk} {f : List Nat}
theorem ZFF : rdAt G (Heap.mem ⟨a :: B3 n m e :: bs,f⟩) 1 (.ptr 1 0) = some [.bool n]:=ld0 (mem1 ..)
theorem ZFG : rdAt G (Heap.mem ⟨a :: B3 n m e :: bs,f⟩) 1 (.ptr 1 1) = some [m]:=ld1 (mem1 ..)
theorem ZFH : rdAt G (Heap.mem ⟨a :: B3 n m e :: bs,f⟩) 1 (.ptr 1 2) = some [.int .i64 e]:=ld2 (mem1 ..)
theorem ZFI : rdAt G (Heap.mem ⟨a :: B3 n m e :: bs,f⟩) 3 (.ptr 1 0) = some [.bool n,m,.int .i64 e]:=ld3 (mem1 ..)
theorem ZFJ (b : Blk) : rdAt G (Heap.mem ⟨a :: b :: B3 n m e :: bs,f⟩) 3 (.ptr 2 0) = some [.bool n,m,.int .i64 e]:=ld3 (mem2 ..)
end
section
variable (a : Blk) {n0 n z : Bool} {m0 m : AV} {x0 x : Int} {l : List Nat} (bs : List Blk)
theorem Zqt : storeV ⟨a :: B3 n0 m0 x0 :: bs,[]⟩ 3 (.ptr 1 0) (A3 n (D z l) x) = some (.tup [],⟨a :: B3 n (D z l) x :: bs,[]⟩):=store3 (h:=⟨a :: B3 n0 m0 x0 :: bs,[]⟩) rfl rfl
theorem ZrL : storeV ⟨a :: B3 n0 m0 x0 :: bs,[]⟩ 3 (.ptr 1 0) (A3 n .nil x) = some (.tup [],⟨a :: B3 n .nil x :: bs,[]⟩):=Zqt (z:=true) (l:=[]) a bs
theorem ZuO (b : Blk) : storeV ⟨a :: b :: B3 n0 m0 x0 :: bs,[]⟩ 3 (.ptr 2 0) (A3 n (D z l) x) = some (.tup [],⟨a :: b :: B3 n (D z l) x :: bs,[]⟩):=store3 (h:=⟨a :: b :: B3 n0 m0 x0 :: bs,[]⟩) rfl rfl
theorem ZBX : storeV ⟨B3 n0 m x :: bs,[]⟩ 1 (.ptr 0 0) (.bool n) = some (.tup [],⟨B3 n m x :: bs,[]⟩):=rfl
theorem ZBY : storeV ⟨B3 n m x0 :: bs,[]⟩ 1 (.ptr 0 2) (.int .i64 x) = some (.tup [],⟨B3 n m x :: bs,[]⟩):=rfl
end
def sgnD (d : Dy) : Int:=if d.m = 0 then 0 else if d.n then -1 else 1
def topD (d : Dy) : Int:=if d.m = 0 then 0 else d.e + blen d.m
def negD (d : Dy) : Dy:=if d.m = 0 then d else ⟨!d.n,d.m,d.e⟩
def absD (d : Dy) : Dy:=⟨false,d.m,d.e⟩
def shD (d : Dy) (k : Int) : Dy:=if d.m = 0 then d else ⟨d.n,d.m,d.e + k⟩
theorem dyB : type_of% (And.intro (And.intro (And.intro (And.intro (And.intro @nilb @nilf) (And.intro @List.length_nil.{0} @List.length_cons.{0})) (And.intro (And.intro @List.cons_append.{0} @ZcX) (And.intro @Nat.zero_add @ZnQ))) (And.intro (And.intro (And.intro @ZnR @ZnS) (And.intro @Zvt @ZFF)) (And.intro (And.intro @ZFG @ZFH) (And.intro @ZFI @ZFJ)))) (And.intro (And.intro (And.intro (And.intro @allocB @build0) (And.intro @ZhT @ZiU)) (And.intro (And.intro @ZhU @Zqt) (And.intro @ZrL @ZuO))) (And.intro (And.intro (And.intro @ZBX @ZBY) (And.intro @Zhd @Zhc)) (And.intro (And.intro @agg3 @ZkQ) (And.intro @Zkr (And.intro @fill3 @box3)))))):=(And.intro (And.intro (And.intro (And.intro (And.intro @nilb @nilf) (And.intro @List.length_nil.{0} @List.length_cons.{0})) (And.intro (And.intro @List.cons_append.{0} @ZcX) (And.intro @Nat.zero_add @ZnQ))) (And.intro (And.intro (And.intro @ZnR @ZnS) (And.intro @Zvt @ZFF)) (And.intro (And.intro @ZFG @ZFH) (And.intro @ZFI @ZFJ)))) (And.intro (And.intro (And.intro (And.intro @allocB @build0) (And.intro @ZhT @ZiU)) (And.intro (And.intro @ZhU @Zqt) (And.intro @ZrL @ZuO))) (And.intro (And.intro (And.intro @ZBX @ZBY) (And.intro @Zhd @Zhc)) (And.intro (And.intro @agg3 @ZkQ) (And.intro @Zkr (And.intro @fill3 @box3))))))
theorem Zcf (J : Al G T g) {z : Bool} {d : Dy} : run G T 16 [DyA z d] = some (.int .i64 (sgnD d)):=by
 obtain ⟨n,m,e⟩:=d
 simp only [DyA]
 rw [Zac G T J.C.Zcf]
 by_cases h0 : ((dl m).length : Int) = 0
 ·have : m = 0:=Zaz.1 (by omega)
  repeat (first | (simp (maxSteps:=9^7) only [seval,evB,Zdy,dyB,h0]) | (simp (disch:=omega) only [dsB]))
  simp [sgnD,this]
 ·have : m≠0:=by rintro rfl; exact h0 (by rw [Zaq]; rfl)
  cases n
  ·repeat (first | (simp (maxSteps:=9^7) only [seval,evB,Zdy,dyB,h0]) | (simp (disch:=omega) only [dsB]))
   simp [sgnD,this]
  ·repeat (first | (simp (maxSteps:=9^7) only [seval,evB,Zdy,dyB,h0]) | (simp (disch:=omega) only [dsB]))
   simp [sgnD,this]
theorem Zeh (J : Al G T g) {z : Bool} {d : Dy} (hs : (dl d.m).length < 17179869184) (he : -1099511627776 < d.e∧d.e < 1099511627776) : run G T 32 [DyA z d] = some (.int .i64 (topD d)):=by
 obtain ⟨n,m,e⟩:=d
 simp only [DyA] at *
 rw [Zac G T J.C.Zeh]
 have hbl:=Zaa m
 by_cases h0 : ((dl m).length : Int) = 0
 ·have : m = 0:=Zaz.1 (by omega)
  repeat (first | (simp (maxSteps:=9^7) only [seval,evB,Zgn,dyB,h0]) | (simp (disch:=omega) only [dsB]))
  simp [topD,this]
 ·have : m≠0:=by rintro rfl; exact h0 (by rw [Zaq]; rfl)
  repeat (first | (simp (maxSteps:=9^7) only [seval,evB,Zgn,dyB,h0,Zeg J hs]) | (simp (disch:=omega) only [dsB]))
  simp [topD,this]
theorem Zoi (J : Al G T g) {z : Bool} {d : Dy} : run G T 102 [DyA z d] = some (DyA z (negD d)):=by
 obtain ⟨n,m,e⟩:=d
 simp only [DyA]
 rw [Zac G T J.C.Zoi]
 by_cases h0 : (0 : Int) < (dl m).length
 ·have : m≠0:=by rintro rfl; rw [Zaq] at h0; exact absurd h0 (by decide)
  repeat (first | (simp (maxSteps:=9^7) only [seval,evB,Zgm,dyB,h0]) | (simp (disch:=omega) only [dsB]))
  simp [negD,this]
 ·have : m = 0:=Zaz.1 (by omega)
  repeat (first | (simp (maxSteps:=9^7) only [seval,evB,Zgm,dyB,h0]) | (simp (disch:=omega) only [dsB]))
  simp [negD,this]
theorem Zog (J : Al G T g) {z : Bool} {d : Dy} : run G T 37 [DyA z d] = some (DyA z (absD d)):=by
 obtain ⟨n,m,e⟩:=d
 simp only [DyA]
 rw [Zac G T J.C.Zog]
 repeat (first | (simp (maxSteps:=9^7) only [seval,evB,Zip,dyB]) | (simp (disch:=omega) only [dsB]))
 rfl
theorem ZeB (J : Al G T g) {z : Bool} {d : Dy} {k : Int} (hk : -4398046511104 < k∧k < 4398046511104) (he : -4398046511104 < d.e∧d.e < 4398046511104) : run G T 65 [DyA z d,.int .i64 k] = some (DyA z (shD d k)):=by
 obtain ⟨n,m,e⟩:=d
 simp only [DyA] at *
 rw [Zac G T J.C.ZeB]
 by_cases h0 : (0 : Int) < (dl m).length
 ·have : m≠0:=by rintro rfl; rw [Zaq] at h0; exact absurd h0 (by decide)
  repeat (first | (simp (maxSteps:=9^7) only [seval,evB,ZdQ,dyB,h0]) | (simp (disch:=omega) only [dsB]))
  simp [shD,this]
 ·have : m = 0:=Zaz.1 (by omega)
  repeat (first | (simp (maxSteps:=9^7) only [seval,evB,ZdQ,dyB,h0]) | (simp (disch:=omega) only [dsB]))
  simp [shD,this]
end Go.Cv
namespace Go.Cv
variable {G : Nat→Option (List AV)} {T : Tbl} {g : Nat}
theorem Zms (J : Al G T g) {n n' z z' : Bool} {l l' : List Nat} {e e' : Int} (hs : l.length < 1099511627776) :
  run G T 14 [A3 n (D z l) e,A3 n' (D z' l') e'] = some (.bool (decide (n = n'∧e = e'∧l = l'))):=by
 rw [Zac G T J.C.Zms]
 have eqb_bb : ∀ a b : Bool,eqbA false (.bool a) (.bool b) = some (.bool (decide (a = b))):=by intro a b; cases a <;> cases b <;> rfl
 by_cases h0 : n = n'
 ·by_cases h1 : e = e'
  ·repeat (first | (simp (maxSteps:=9^7) only [seval,evB,Zdx,dyB,eqb_bb,h0,h1,ZhN J hs]) | (simp (disch:=omega) only [dsB]))
   simp [h0,h1]
  ·repeat (first | (simp (maxSteps:=9^7) only [seval,evB,Zdx,dyB,eqb_bb,h0,h1,ZhN J hs]) | (simp (disch:=omega) only [dsB]))
   simp [h1]
 ·repeat (first | (simp (maxSteps:=9^7) only [seval,evB,Zdx,dyB,eqb_bb,h0,ZhN J hs]) | (simp (disch:=omega) only [dsB]))
  simp [h0]
end Go.Cv
