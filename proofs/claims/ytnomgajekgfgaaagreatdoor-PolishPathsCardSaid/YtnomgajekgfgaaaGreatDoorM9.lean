/-
 A part of the proof of the statements of this seat (texts that the law's own text leans on): no condition.
-/
import Derived.Test.YtnomgajekgfgaaaGreatDoorM8
import Derived.Test.YtnomgajekgfgaaaGreatDoorM5
set_option linter.unusedVariables false
set_option linter.unusedSimpArgs false
set_option linter.defProp false
namespace Go.Cv
variable {G : Nat→Option (List AV)} {T : Tbl} {g : Nat}
theorem Zwg (h : Heap) (a b : List Nat) (z y : Bool) (ha : Dg a) (hb : Dg b) (hs : a.length < 1099511627776) (hl : a.length = b.length) : ∀ n : Nat,n≤a.length→val (a.drop n) = val (b.drop n) →
  Post (evL G T ZiJ [(0,D z a),(1,D y b),(5,.int .i64 ((n : Int) - 1))] h) fun r =>
   (∃ e,r = (.exit 1,e,h)∧val a = val b)∨r = (.ret,[(4,.int .i64 (cmpN (val a) (val b)))],h)∧val a≠val b
 | 0,hn,he => by
  rw [Zae G T (c:=ZiJ) rfl]
  repeat (first | simp only [seval,evB,ZgE,cast0,Int.zero_sub] | simp (disch:=omega) only [dsB])
  exact Post.some (Or.inl ⟨_,rfl,he⟩)
 | n + 1,hn,he => by
  rw [Zae G T (c:=ZiJ) rfl]
  have e1 : ((n + 1 : Nat) : Int) - 1 = n:=by omega
  have h0 : (0 : Int)≤n:=by omega
  by_cases h1 : (dg a n : Int) = dg b n
  ·repeat (first | simp only [seval,evB,ZgE,e1,h0,h1] | simp (disch:=omega) only [dsB])
   refine Zwg h a b z y ha hb hs hl n (by omega) ?_
   rw [ZfB (l:=a) (i:=n) (by omega),ZfB (l:=b) (i:=n) (by omega),ZaD,ZaD,he]; omega
  ·by_cases h2 : (dg a n : Int) < dg b n
   ·repeat (first | simp only [seval,evB,ZgE,e1,h0,h1,h2] | simp (disch:=omega) only [dsB])
    have:=ZoC ha (n:=n) (by omega) (by omega) he (by omega)
    exact Post.some (Or.inr ⟨by rw [Zqh this],by omega⟩)
   ·repeat (first | simp only [seval,evB,ZgE,e1,h0,h1,h2] | simp (disch:=omega) only [dsB])
    have:=ZoC hb (n:=n) (by omega) (by omega) he.symm (by omega)
    exact Post.some (Or.inr ⟨by rw [Zst this],by omega⟩)
theorem Zno (J : Al G T g) {z y : Bool} {a b : Nat} (ha : (dl a).length < 1099511627776) (hb : (dl b).length < 1099511627776) :
  run G T 107 [D z (dl a),D y (dl b)] = some (.int .i64 (cmpN a b)):=by
 rw [Zab G T J.A.Zno]
 by_cases h0 : ((dl a).length : Int) < (dl b).length
 ·repeat (first | simp only [seval,evB,ZhZ,h0] | simp (disch:=omega) only [dsB])
  rw [Zqh (ZlA (by omega))]
 ·by_cases h1 : ((dl b).length : Int) < (dl a).length
  ·repeat (first | simp only [seval,evB,ZhZ,h0,h1] | simp (disch:=omega) only [dsB])
   rw [Zst (ZlA (by omega))]
  ·obtain ⟨r,hr,hp⟩:=Zwg (G:=G) (T:=T) .nil (dl a) (dl b) z y (Zao a) (Zao b) ha (by omega) (dl a).length (Nat.le_refl _)
    (by rw [List.drop_eq_nil_of_le (by omega),List.drop_eq_nil_of_le (by omega)])
   rw [ZaE,ZaE] at hp
   rcases hp with ⟨e,rfl,he⟩ | ⟨rfl,he⟩
   ·repeat (first | simp only [seval,evB,ZhZ,h0,h1,hr] | simp (disch:=omega) only [dsB])
    rw [Zyz he]
   ·repeat (first | simp only [seval,evB,ZhZ,h0,h1,hr] | simp (disch:=omega) only [dsB])
theorem ZvV (h : Heap) (a b : List Nat) (z y : Bool) (ha : Dg a) (hb : Dg b) (hs : a.length < 1099511627776) (hl : a.length = b.length) : ∀ n : Nat,n≤a.length→val (a.drop n) = val (b.drop n) →
  Post (evL G T Zgj [(0,D z a),(1,D y b),(5,.int .i64 ((n : Int) - 1))] h) fun r =>
   (∃ e,r = (.exit 0,e,h)∧val a = val b)∨r = (.ret,[(4,.int .i64 (cmpN (val a) (val b)))],h)∧val a≠val b
 | 0,hn,he => by
  rw [Zae G T (c:=Zgj) rfl]
  repeat (first | simp only [seval,evB,ZdX,cast0,Int.zero_sub] | simp (disch:=omega) only [dsB])
  exact Post.some (Or.inl ⟨_,rfl,he⟩)
 | n + 1,hn,he => by
  rw [Zae G T (c:=Zgj) rfl]
  have e1 : ((n + 1 : Nat) : Int) - 1 = n:=by omega
  have h0 : (0 : Int)≤n:=by omega
  by_cases h1 : (dg a n : Int) < dg b n
  ·repeat (first | simp only [seval,evB,ZdX,e1,h0,h1] | simp (disch:=omega) only [dsB])
   have:=ZoC ha (n:=n) (by omega) (by omega) he (by omega)
   exact Post.some (Or.inr ⟨by rw [Zqh this],by omega⟩)
  ·by_cases h2 : (dg b n : Int) < dg a n
   ·repeat (first | simp only [seval,evB,ZdX,e1,h0,h1,h2] | simp (disch:=omega) only [dsB])
    have:=ZoC hb (n:=n) (by omega) (by omega) he.symm (by omega)
    exact Post.some (Or.inr ⟨by rw [Zst this],by omega⟩)
   ·repeat (first | simp only [seval,evB,ZdX,e1,h0,h1,h2] | simp (disch:=omega) only [dsB])
    refine ZvV h a b z y ha hb hs hl n (by omega) ?_
    rw [ZfB (l:=a) (i:=n) (by omega),ZfB (l:=b) (i:=n) (by omega),ZaD,ZaD,he]; omega
theorem Zka (J : Al G T g) {z y : Bool} {a b : Nat} (ha : (dl a).length < 1099511627776) (hb : (dl b).length < 1099511627776) :
  run G T 100 [D z (dl a),D y (dl b)] = some (.int .i64 (cmpN a b)):=by
 rw [Zab G T J.B.Zka]
 by_cases h0 : ((dl a).length : Int) < (dl b).length
 ·have h2 : ¬ ((dl a).length : Int) = (dl b).length:=by omega
  repeat (first | simp only [seval,evB,Zev,h0,h2] | simp (disch:=omega) only [dsB])
  rw [Zqh (ZlA (by omega))]
 ·by_cases h1 : ((dl b).length : Int) < (dl a).length
  ·have h2 : ¬ ((dl a).length : Int) = (dl b).length:=by omega
   repeat (first | simp only [seval,evB,Zev,h0,h1,h2] | simp (disch:=omega) only [dsB])
   rw [Zst (ZlA (by omega))]
  ·have h2 : ((dl a).length : Int) = (dl b).length:=by omega
   obtain ⟨r,hr,hp⟩:=ZvV (G:=G) (T:=T) .nil (dl a) (dl b) z y (Zao a) (Zao b) ha (by omega) (dl a).length (Nat.le_refl _)
    (by rw [List.drop_eq_nil_of_le (by omega),List.drop_eq_nil_of_le (by omega)])
   rw [ZaE,ZaE] at hp
   rw [h2] at hr
   rcases hp with ⟨e,rfl,he⟩ | ⟨rfl,he⟩
   ·repeat (first | simp only [seval,evB,Zev,h0,h1,h2,hr] | simp (disch:=omega) only [dsB])
    rw [Zyz he]
   ·repeat (first | simp only [seval,evB,Zev,h0,h1,h2,hr] | simp (disch:=omega) only [dsB])
theorem Zpx {a b : List Nat} {z y : Bool} (ha : Dg a) (hb : Dg b) (hs : a.length < 549755813888) (ht : b.length < 549755813888) : ∀ (m i : Nat) (h : Heap) (v : AV) (l : List Nat) (c : Int),
  m + i = max a.length b.length→Bld h v l→Dg l→l.length = i→0≤c∧c≤1→val l + 4294967296 ^ i * c.toNat = val (a.take i) + val (b.take i) →
  Post (evL G T Zgi [(0,D z a),(1,D y b),(5,v),(6,.int .u64 c),(7,.int .i64 (i : Int))] h) fun r =>
   ∃ e h' v' l' c',r = (.exit 0,(0,D z a) :: (1,D y b) :: (5,v') :: (6,.int .u64 c') :: e,h')∧Bld h' v' l'∧Dg l'∧l'.length = max a.length b.length∧0≤c'∧c'≤1∧val (l' ++ [c'.toNat]) = val a + val b
 | 0,i,h,v,l,c,hm,B,hd,hl,hc,he => by
  rw [Zae G T (c:=Zgi) rfl]
  have h1 : ¬ (i : Int) < a.length:=by omega
  have h2 : ¬ (i : Int) < b.length:=by omega
  repeat (first | simp only [seval,evB,ZdW,h1,h2] | simp (disch:=omega) only [dsB])
  refine Post.some ⟨_,_,_,_,_,rfl,B,hd,by omega,hc.1,hc.2,?_⟩
  rw [List.take_of_length_le (by omega),List.take_of_length_le (by omega)] at he
  rw [Zeq,hl,he]
 | m + 1,i,h,v,l,c,hm,B,hd,hl,hc,he => by
  rw [Zae G T (c:=Zgi) rfl]
  have ha':=ha.dg i
  have hb':=hb.dg i
  have e7 : (i : Int) + 1 = ((i + 1 : Nat) : Int):=by omega
  by_cases h1 : (i : Int) < a.length
  ·by_cases h2 : (i : Int) < b.length
   ·repeat (first | simp only [seval,evB,ZdW,h1,h2 ] | simp (disch:=omega) only [dsB,ZmS B])
    rw [e7]
    refine Zpx ha hb hs ht m (i + 1) _ _ _ _ (by omega) (ZdV B (by omega) (by omega)).2 (Zcv hd (by omega)) (by rw [List.length_append,hl]; rfl) (by omega) ?_
    rw [Zad,Zad]
    exact Zpy hl he (by omega)
   ·have hg : dg b i = 0:=ZkW (by omega)
    repeat (first | simp only [seval,evB,ZdW,h1,h2 ] | simp (disch:=omega) only [dsB,ZmS B])
    rw [e7]
    refine Zpx ha hb hs ht m (i + 1) _ _ _ _ (by omega) (ZdV B (by omega) (by omega)).2 (Zcv hd (by omega)) (by rw [List.length_append,hl]; rfl) (by omega) ?_
    rw [Zad,Zad]
    exact Zpy hl he (by omega)
  ·have hg : dg a i = 0:=ZkW (by omega)
   by_cases h2 : (i : Int) < b.length
   ·repeat (first | simp only [seval,evB,ZdW,h1,h2 ] | simp (disch:=omega) only [dsB,ZmS B])
    rw [e7]
    refine Zpx ha hb hs ht m (i + 1) _ _ _ _ (by omega) (ZdV B (by omega) (by omega)).2 (Zcv hd (by omega)) (by rw [List.length_append,hl]; rfl) (by omega) ?_
    rw [Zad,Zad]
    exact Zpy hl he (by omega)
   ·omega
theorem ZgT (J : Al G T g) {z y : Bool} {a b : Nat} (hs : (dl a).length < 549755813888) (ht : (dl b).length < 549755813888) : ∃ z',run G T 99 [D z (dl a),D y (dl b)] = some (D z' (dl (a + b))):=by
 apply exP
 rw [Zab G T J.B.ZgT]
 obtain ⟨r,hr,e,h',v',l',c',rfl,B,hd,hl,h0,h1,hv⟩:=Zpx (G:=G) (T:=T) (z:=z) (y:=y) (Zao a) (Zao b) hs ht (max (dl a).length (dl b).length) 0 .nil .nil [] 0 rfl Zsh Dg.nil rfl (by omega) rfl
 rw [cast0] at hr
 rw [ZaE,ZaE] at hv
 have hm : l'.length + 1 < 1099511627776:=by omega
 have hw : c' % 4294967296 = c':=by omega
 have B2:=(ZdV B (w:=c') (by omega) (by omega)).2
 obtain ⟨z',hz⟩:=ZcQ J (z:=isN (.own (h'.b.length + 1) 0 (l'.length + 1) 1)) (Zcv hd (d:=c'.toNat) (by omega)) (by rw [List.length_append]; exact hm)
 rw [hv] at hz
 repeat (first | simp only [seval,evB,ZkA,hr,hw,B2.snap,hz ] | simp (disch:=omega) only [dsB,ZmS B])
 exact Post.some ⟨_,rfl⟩
theorem ZpS {l : List Nat} {i c x y d c' A A' : Nat} (hl : l.length = i) (he : val l + A' = A + 4294967296 ^ i * c) (hd : d + y + c = x + 4294967296 * c') :
  val (l ++ [d]) + (A' + 4294967296 ^ i * y) = (A + 4294967296 ^ i * x) + 4294967296 ^ (i + 1) * c':=by
 rw [Zeq,hl,Nat.pow_succ]
 generalize 4294967296 ^ i = p at *
 have : p * d + p * y + p * c = p * x + p * 4294967296 * c':=by rw [Nat.mul_assoc,← Nat.mul_add,← Nat.mul_add,hd,Nat.mul_add]
 omega
theorem ZnF {a b : List Nat} {z y : Bool} (ha : Dg a) (hb : Dg b) (hs : a.length < 549755813888) : ∀ (m i : Nat) (h : Heap) (v : AV) (l : List Nat) (c : Int),
  m + i = a.length→Bld h v l→Dg l→l.length = i→0≤c∧c≤1→val l + val (b.take i) = val (a.take i) + 4294967296 ^ i * c.toNat →
  Post (evL G T Zgo [(0,D z a),(1,D y b),(5,v),(6,.int .u64 c),(7,.int .i64 (i : Int))] h) fun r =>
   ∃ e h' v' l' c',r = (.exit 0,(0,D z a) :: (1,D y b) :: (5,v') :: (6,.int .u64 c') :: e,h')∧Bld h' v' l'∧Dg l'∧l'.length = a.length∧val l' + val (b.take a.length) = val a + 4294967296 ^ a.length * c'.toNat
 | 0,i,h,v,l,c,hm,B,hd,hl,hc,he => by
  rw [Zae G T (c:=Zgo) rfl]
  have h1 : ¬ (i : Int) < a.length:=by omega
  repeat (first | simp only [seval,evB,ZcM,h1] | simp (disch:=omega) only [dsB])
  have hi : i = a.length:=by omega
  subst hi
  refine Post.some ⟨_,_,_,_,_,rfl,B,hd,hl,?_⟩
  rw [List.take_length] at he; exact he
 | m + 1,i,h,v,l,c,hm,B,hd,hl,hc,he => by
  rw [Zae G T (c:=Zgo) rfl]
  have ha':=ha.dg i
  have hb':=hb.dg i
  have e7 : (i : Int) + 1 = ((i + 1 : Nat) : Int):=by omega
  have h1 : (i : Int) < a.length:=by omega
  have w1 : (dg a i : Int) % 18446744073709551616 = dg a i:=by omega
  have w2 : (dg b i : Int) % 18446744073709551616 = dg b i:=by omega
  have w3 : (c + (dg b i : Int)) % 18446744073709551616 = c + dg b i:=by omega
  by_cases h2 : (i : Int) < b.length
  ·by_cases h3 : (dg a i : Int) < c + dg b i
   ·repeat (first | simp only [seval,evB,ZcM,h1,h2,w1,w2,w3,h3 ] | simp (disch:=omega) only [dsB,ZmS B])
    rw [e7]
    refine ZnF ha hb hs m (i + 1) _ _ _ _ (by omega) (ZdV B (by omega) (by omega)).2 (Zcv hd (by omega)) (by rw [List.length_append,hl]; rfl) (by omega) ?_
    rw [Zad,Zad]
    exact ZpS hl he (by omega)
   ·repeat (first | simp only [seval,evB,ZcM,h1,h2,w1,w2,w3,h3 ] | simp (disch:=omega) only [dsB,ZmS B])
    rw [e7]
    refine ZnF ha hb hs m (i + 1) _ _ _ _ (by omega) (ZdV B (by omega) (by omega)).2 (Zcv hd (by omega)) (by rw [List.length_append,hl]; rfl) (by omega) ?_
    rw [Zad,Zad]
    exact ZpS hl he (by omega)
  ·have hg : dg b i = 0:=ZkW (by omega)
   by_cases h3 : (dg a i : Int) < c
   ·repeat (first | simp only [seval,evB,ZcM,h1,h2,w1,w2,w3,h3 ] | simp (disch:=omega) only [dsB,ZmS B])
    rw [e7]
    refine ZnF ha hb hs m (i + 1) _ _ _ _ (by omega) (ZdV B (by omega) (by omega)).2 (Zcv hd (by omega)) (by rw [List.length_append,hl]; rfl) (by omega) ?_
    rw [Zad,Zad]
    exact ZpS hl he (by omega)
   ·repeat (first | simp only [seval,evB,ZcM,h1,h2,w1,w2,w3,h3 ] | simp (disch:=omega) only [dsB,ZmS B])
    rw [e7]
    refine ZnF ha hb hs m (i + 1) _ _ _ _ (by omega) (ZdV B (by omega) (by omega)).2 (Zcv hd (by omega)) (by rw [List.length_append,hl]; rfl) (by omega) ?_
    rw [Zad,Zad]
    exact ZpS hl he (by omega)
theorem Zit (J : Al G T g) {z y : Bool} {a b : Nat} (hs : (dl a).length < 549755813888) (hab : b≤a) : ∃ z',run G T 101 [D z (dl a),D y (dl b)] = some (D z' (dl (a - b))):=by
 apply exP
 rw [Zab G T J.B.Zit]
 obtain ⟨r,hr,e,h',v',l',c',rfl,B,hd,hl,hv⟩:=ZnF (G:=G) (T:=T) (z:=z) (y:=y) (Zao a) (Zao b) hs (dl a).length 0 .nil .nil [] 0 rfl Zsh Dg.nil rfl (by omega) rfl
 rw [cast0] at hr
 have hbl : (dl b).length≤(dl a).length:=by
  rcases Nat.lt_or_ge (dl a).length (dl b).length with h | h
  ·have:=ZlA h; omega
  ·exact h
 rw [List.take_of_length_le hbl,ZaE,ZaE] at hv
 have hlt:=ZfN hd
 rw [hl] at hlt
 have hc : c'.toNat = 0:=by
  rcases Nat.eq_zero_or_pos c'.toNat with h | h
  ·exact h
  ·have : 4294967296 ^ (dl a).length * 1≤4294967296 ^ (dl a).length * c'.toNat:=Nat.mul_le_mul_left _ h
   omega
 rw [hc,Nat.mul_zero] at hv
 obtain ⟨z',hz⟩:=ZcQ J (z:=isN v') hd (by omega)
 rw [show val l' = a - b by omega] at hz
 repeat (first | simp only [seval,evB,ZkB,hr,B.snap,hz] | simp (disch:=omega) only [dsB])
 exact Post.some ⟨_,rfl⟩
theorem ZvO {l : List Nat} {j q i c x d c' A S : Nat} (hl : l.length = j) (hj : j = q + i) (he : val l + 4294967296 ^ j * c = 4294967296 ^ q * S * A) (hd : d + 4294967296 * c' = c + x * S) :
  val (l ++ [d]) + 4294967296 ^ (j + 1) * c' = 4294967296 ^ q * S * (A + 4294967296 ^ i * x):=by
 subst hj
 rw [Zeq,hl,Nat.pow_succ,Nat.mul_add,← he]
 have e : 4294967296 ^ q * S * (4294967296 ^ i * x) = 4294967296 ^ (q + i) * (x * S):=by
  rw [Nat.pow_add]; simp only [Nat.mul_assoc,Nat.mul_left_comm,Nat.mul_comm]
 rw [e]
 generalize 4294967296 ^ (q + i) = p at *
 have : p * d + p * 4294967296 * c' = p * c + p * (x * S):=by rw [Nat.mul_assoc,← Nat.mul_add,hd,Nat.mul_add]
 omega
theorem ZIt {x s : Nat} (hx : x < 4294967296) (hs : s < 32) : x * 2 ^ s < 9223372036854775808∧2 ^ s≤2147483648:=by
 have h1 : (2 : Nat) ^ s≤2 ^ 31:=Nat.pow_le_pow_right (by decide) (by omega)
 have h2 : x * 2 ^ s≤4294967295 * 2 ^ 31:=Nat.mul_le_mul (by omega) h1
 omega
theorem Zbb (s : Nat) : ((2 : Int) ^ s) = ((2 ^ s : Nat) : Int):=by simp
theorem Zsp {c x s : Nat} (hc : c < 2 ^ s) (hx : x < 4294967296) : (c + x * 2 ^ s) / 4294967296 < 2 ^ s:=by
 have h2 : x * 2 ^ s≤4294967295 * 2 ^ s:=Nat.mul_le_mul (by omega) (Nat.le_refl _)
 generalize x * 2 ^ s = y at *
 generalize 2 ^ s = p at *
 omega
theorem Zyh {a : List Nat} {z : Bool} {q s : Nat} (ha : Dg a) (hs : s < 32) (hb : q + a.length < 549755813888) : ∀ (m i : Nat) (h : Heap) (v : AV) (l : List Nat) (c : Nat),
  m + i = a.length→Bld h v l→Dg l→l.length = q + i→c < 2 ^ s→val l + 4294967296 ^ (q + i) * c = 4294967296 ^ q * 2 ^ s * val (a.take i) →
  Post (evL G T ZhA [(0,D z a),(5,v),(6,.int .i64 (s : Int)),(7,.int .u64 (c : Int)),(8,.int .i64 (i : Int))] h) fun r =>
   ∃ e h' v' l',∃ c' : Nat,r = (.exit 0,(0,D z a) :: (5,v') :: (6,.int .i64 (s : Int)) :: (7,.int .u64 (c' : Int)) :: e,h')∧Bld h' v' l'∧Dg l'∧l'.length = q + a.length∧c' < 2 ^ s∧val (l' ++ [c']) = 4294967296 ^ q * 2 ^ s * val a
 | 0,i,h,v,l,c,hm,B,hd,hl,hc,he => by
  rw [Zae G T (c:=ZhA) rfl]
  have h1 : ¬ (i : Int) < a.length:=by omega
  repeat (first | simp only [seval,evB,ZkC,h1] | simp (disch:=omega) only [dsB])
  refine Post.some ⟨_,_,_,_,_,rfl,B,hd,by omega,hc,?_⟩
  rw [List.take_of_length_le (by omega)] at he
  rw [Zeq,hl,he]
 | m + 1,i,h,v,l,c,hm,B,hd,hl,hc,he => by
  rw [Zae G T (c:=ZhA) rfl]
  have ha':=ha.dg i
  have e7 : (i : Int) + 1 = ((i + 1 : Nat) : Int):=by omega
  have h1 : (i : Int) < a.length:=by omega
  have hx:=ZIt ha' hs
  have hk:=Zsp hc ha'
  have w1 : (dg a i : Int) % 18446744073709551616 = dg a i:=by omega
  have w2 : min s 64 = s:=by omega
  have w3 : (dg a i : Int) * 2 ^ s % 18446744073709551616 = ((dg a i * 2 ^ s : Nat) : Int):=by
   rw [Zbb,← Int.natCast_mul]; omega
  have w4 : orI .u64 (c : Int) ((dg a i * 2 ^ s : Nat) : Int) = ((c + dg a i * 2 ^ s : Nat) : Int):=by
   rw [or64 (by omega) (by omega),ZmX hc]
  have w5 : ((c + dg a i * 2 ^ s : Nat) : Int) / 4294967296 = (((c + dg a i * 2 ^ s) / 4294967296 : Nat) : Int):=by omega
  repeat (first | simp only [seval,evB,ZkC,h1,w1,w2,w3,w4,w5 ] | simp (disch:=omega) only [dsB,ZmS B])
  rw [e7]
  refine Zyh ha hs hb m (i + 1) _ _ _ _ (by omega) (ZdV B (by omega) (by omega)).2 (Zcv hd (by omega)) (by rw [List.length_append,hl]; rfl) hk ?_
  rw [Zad]
  refine ZvO (j:=q + i) (q:=q) (i:=i) hl rfl he ?_
  omega
theorem ZfH (J : Al G T g) {z : Bool} {a n : Nat} (hs : (dl a).length < 137438953472) (hn : n < 1099511627776) : ∃ z',run G T 72 [D z (dl a),.int .i64 (n : Int)] = some (D z' (dl (a * 2 ^ n))):=by
 apply exP
 rw [Zab G T J.B.ZfH]
 by_cases h0 : ((dl a).length : Int) = 0
 ·repeat (first | simp only [seval,evB,ZjQ,h0] | simp (disch:=omega) only [dsB])
  have : a = 0:=ZgR.1 (List.length_eq_zero_iff.1 (by omega))
  subst this
  exact Post.some ⟨true,by rw [Nat.zero_mul,Zai]; rfl⟩
 ·have hz : Dg (List.replicate (n / 32) 0):=ZjF _
  obtain ⟨r,hr,e,h',v',l',c',rfl,B,hd,hl,hc,hv⟩:=Zyh (G:=G) (T:=T) (z:=z) (q:=n / 32) (s:=n % 32) (Zao a) (by omega) (by omega) (dl a).length 0 _ _ _ 0 rfl (ZDI FreH.nil (n / 32)) hz (by simp) (Nat.two_pow_pos _) (by
   have : ∀ k,val (List.replicate k 0) = 0:=fun k => by induction k with
    | zero => rfl
    | succ k ih => rw [List.replicate_succ,ZaD,ih]
   simp [this,val])
  rw [cast0] at hr
  have hp : c' < 4294967296:=by
   have : (2 : Nat) ^ (n % 32)≤2 ^ 31:=Nat.pow_le_pow_right (by decide) (by omega)
   omega
  have hw : (c' : Int) % 4294967296 = c':=by omega
  have B2:=(ZdV B (w:=(c' : Int)) (by omega) (by omega)).2
  obtain ⟨z',hz⟩:=ZcQ J (z:=isN (.own (h'.b.length + 1) 0 (l'.length + 1) 1)) (Zcv hd hp) (by rw [List.length_append]; simp only [List.length_cons,List.length_nil]; omega)
  rw [hv,ZaE,pow32,← Nat.pow_add,show 32 * (n / 32) + n % 32 = n by omega,Nat.mul_comm] at hz
  repeat (first | simp only [seval,evB,ZjQ,h0,hr,hw,B2.snap,Int.toNat_natCast,hz ] | simp (disch:=omega) only [dsB,ZmS B])
  exact Post.some ⟨_,rfl⟩
theorem ZcK {x : Nat} (hx : x < 256) : strixA ZnM (.int .u8 (x : Int)) = some (.int .u8 ((blen x : Nat) : Int)):=by
 have key : ∀ x < 256,ZnM[x]? = some (blen x):=by decide +kernel
 simp only [strixA,Int.natCast_nonneg,if_true,Int.toNat_natCast,key x hx,Option.map_some]
theorem blen8 {x : Nat} (h : x < 256) : blen x≤8:=Zaf.2 h
theorem Zmh (J : Al G T g) {x : Nat} (hx : x < 4294967296) : run G T 88 [.int .u32 (x : Int)] = some (.int .i64 ((blen x : Nat) : Int)):=by
 rw [Zab G T J.A.Zmh]
 have d16 : (x : Int) / 65536 = ((x / 65536 : Nat) : Int):=by omega
 have d8 : (x : Int) / 256 = ((x / 256 : Nat) : Int):=by omega
 have d24 : ((x / 65536 : Nat) : Int) / 256 = ((x / 16777216 : Nat) : Int):=by omega
 have b16:=Zaj x 16
 have b8:=Zaj x 8
 have b24:=Zaj x 24
 have l16:=@Zbn x 16
 have l8:=@Zbn x 8
 have l24:=@Zbn x 24
 simp only [Nat.reducePow] at b16 b8 b24 l16 l8 l24
 by_cases h1 : (65536 : Int)≤x
 ·by_cases h2 : (256 : Int)≤((x / 65536 : Nat) : Int)
  ·have m : ((x / 16777216 : Nat) : Int) % 256 = ((x / 16777216 : Nat) : Int):=by omega
   have hb:=blen8 (x:=x / 16777216) (by omega)
   repeat (first | simp only [seval,evB,Zdd,h1,h2,d16,d24,m,Zhj ] | simp (disch:=omega) only [dsB,ZcK])
   exact congrArg (fun n : Int => some (AV.int .i64 n)) (by omega)
  ·have m : ((x / 65536 : Nat) : Int) % 256 = ((x / 65536 : Nat) : Int):=by omega
   have hb:=blen8 (x:=x / 65536) (by omega)
   repeat (first | simp only [seval,evB,Zdd,h1,h2,d16,m,Zhj ] | simp (disch:=omega) only [dsB,ZcK])
   exact congrArg (fun n : Int => some (AV.int .i64 n)) (by omega)
 ·by_cases h2 : (256 : Int)≤x
  ·have m : ((x / 256 : Nat) : Int) % 256 = ((x / 256 : Nat) : Int):=by omega
   have hb:=blen8 (x:=x / 256) (by omega)
   repeat (first | simp only [seval,evB,Zdd,h1,h2,d8,m,Zhj ] | simp (disch:=omega) only [dsB,ZcK])
   exact congrArg (fun n : Int => some (AV.int .i64 n)) (by omega)
  ·have m : (x : Int) % 256 = (x : Int):=by omega
   have hb:=blen8 (x:=x) (by omega)
   repeat (first | simp only [seval,evB,Zdd,h1,h2,m,Zhj ] | simp (disch:=omega) only [dsB,ZcK])
   exact congrArg (fun n : Int => some (AV.int .i64 n)) (by omega)
theorem ZhI (J : Al G T g) {x : Nat} (hx : x < 18446744073709551616) : run G T 53 [.int .u64 (x : Int)] = some (.int .i64 ((blen x : Nat) : Int)):=by
 rw [Zab G T J.A.ZhI]
 have d0_8 : (x : Int) / 256 = ((x / 256 : Nat) : Int):=by omega
 have d0_16 : (x : Int) / 65536 = ((x / 65536 : Nat) : Int):=by omega
 have d16_8 : ((x / 65536 : Nat) : Int) / 256 = ((x / 16777216 : Nat) : Int):=by omega
 have d0_32 : (x : Int) / 4294967296 = ((x / 4294967296 : Nat) : Int):=by omega
 have d32_8 : ((x / 4294967296 : Nat) : Int) / 256 = ((x / 1099511627776 : Nat) : Int):=by omega
 have d32_16 : ((x / 4294967296 : Nat) : Int) / 65536 = ((x / 281474976710656 : Nat) : Int):=by omega
 have d48_8 : ((x / 281474976710656 : Nat) : Int) / 256 = ((x / 72057594037927936 : Nat) : Int):=by omega
 have b8:=Zaj x 8
 have l8:=@Zbn x 8
 simp only [Nat.reducePow] at b8 l8
 have b16:=Zaj x 16
 have l16:=@Zbn x 16
 simp only [Nat.reducePow] at b16 l16
 have b24:=Zaj x 24
 have l24:=@Zbn x 24
 simp only [Nat.reducePow] at b24 l24
 have b32:=Zaj x 32
 have l32:=@Zbn x 32
 simp only [Nat.reducePow] at b32 l32
 have b40:=Zaj x 40
 have l40:=@Zbn x 40
 simp only [Nat.reducePow] at b40 l40
 have b48:=Zaj x 48
 have l48:=@Zbn x 48
 simp only [Nat.reducePow] at b48 l48
 have b56:=Zaj x 56
 have l56:=@Zbn x 56
 simp only [Nat.reducePow] at b56 l56
 by_cases h1 : (4294967296 : Int)≤(x : Int)
 ·by_cases h2 : (65536 : Int)≤((x / 4294967296 : Nat) : Int)
  ·by_cases h3 : (256 : Int)≤((x / 281474976710656 : Nat) : Int)
   ·have m : ((x / 72057594037927936 : Nat) : Int) % 256 = ((x / 72057594037927936 : Nat) : Int):=by omega
    have hb:=blen8 (x:=x / 72057594037927936) (by omega)
    repeat (first | simp only [seval,evB,Zbc,h1,h2,h3,d0_8,d0_16,d16_8,d0_32,d32_8,d32_16,d48_8,m,Zhj ] | simp (disch:=omega) only [dsB,ZcK])
    exact congrArg (fun n : Int => some (AV.int .i64 n)) (by omega)
   ·have m : ((x / 281474976710656 : Nat) : Int) % 256 = ((x / 281474976710656 : Nat) : Int):=by omega
    have hb:=blen8 (x:=x / 281474976710656) (by omega)
    repeat (first | simp only [seval,evB,Zbc,h1,h2,h3,d0_8,d0_16,d16_8,d0_32,d32_8,d32_16,d48_8,m,Zhj ] | simp (disch:=omega) only [dsB,ZcK])
    exact congrArg (fun n : Int => some (AV.int .i64 n)) (by omega)
  ·by_cases h3 : (256 : Int)≤((x / 4294967296 : Nat) : Int)
   ·have m : ((x / 1099511627776 : Nat) : Int) % 256 = ((x / 1099511627776 : Nat) : Int):=by omega
    have hb:=blen8 (x:=x / 1099511627776) (by omega)
    repeat (first | simp only [seval,evB,Zbc,h1,h2,h3,d0_8,d0_16,d16_8,d0_32,d32_8,d32_16,d48_8,m,Zhj ] | simp (disch:=omega) only [dsB,ZcK])
    exact congrArg (fun n : Int => some (AV.int .i64 n)) (by omega)
   ·have m : ((x / 4294967296 : Nat) : Int) % 256 = ((x / 4294967296 : Nat) : Int):=by omega
    have hb:=blen8 (x:=x / 4294967296) (by omega)
    repeat (first | simp only [seval,evB,Zbc,h1,h2,h3,d0_8,d0_16,d16_8,d0_32,d32_8,d32_16,d48_8,m,Zhj ] | simp (disch:=omega) only [dsB,ZcK])
    exact congrArg (fun n : Int => some (AV.int .i64 n)) (by omega)
 ·by_cases h2 : (65536 : Int)≤(x : Int)
  ·by_cases h3 : (256 : Int)≤((x / 65536 : Nat) : Int)
   ·have m : ((x / 16777216 : Nat) : Int) % 256 = ((x / 16777216 : Nat) : Int):=by omega
    have hb:=blen8 (x:=x / 16777216) (by omega)
    repeat (first | simp only [seval,evB,Zbc,h1,h2,h3,d0_8,d0_16,d16_8,d0_32,d32_8,d32_16,d48_8,m,Zhj ] | simp (disch:=omega) only [dsB,ZcK])
    exact congrArg (fun n : Int => some (AV.int .i64 n)) (by omega)
   ·have m : ((x / 65536 : Nat) : Int) % 256 = ((x / 65536 : Nat) : Int):=by omega
    have hb:=blen8 (x:=x / 65536) (by omega)
    repeat (first | simp only [seval,evB,Zbc,h1,h2,h3,d0_8,d0_16,d16_8,d0_32,d32_8,d32_16,d48_8,m,Zhj ] | simp (disch:=omega) only [dsB,ZcK])
    exact congrArg (fun n : Int => some (AV.int .i64 n)) (by omega)
  ·by_cases h3 : (256 : Int)≤(x : Int)
   ·have m : ((x / 256 : Nat) : Int) % 256 = ((x / 256 : Nat) : Int):=by omega
    have hb:=blen8 (x:=x / 256) (by omega)
    repeat (first | simp only [seval,evB,Zbc,h1,h2,h3,d0_8,d0_16,d16_8,d0_32,d32_8,d32_16,d48_8,m,Zhj ] | simp (disch:=omega) only [dsB,ZcK])
    exact congrArg (fun n : Int => some (AV.int .i64 n)) (by omega)
   ·have m : (x : Int) % 256 = (x : Int):=by omega
    have hb:=blen8 (x:=x) (by omega)
    repeat (first | simp only [seval,evB,Zbc,h1,h2,h3,d0_8,d0_16,d16_8,d0_32,d32_8,d32_16,d48_8,m,Zhj ] | simp (disch:=omega) only [dsB,ZcK])
    exact congrArg (fun n : Int => some (AV.int .i64 n)) (by omega)
theorem Zan {a : Nat} : (dl a).length = 0↔a = 0:=by rw [List.length_eq_zero_iff,ZgR]
theorem ZfG (J : Al G T g) {z : Bool} {a : Nat} (hm : mayL (dl a) = true) : run G T 49 [D z (dl a)] = some (.int .i64 ((blen a : Nat) : Int)):=by
 rw [Zab G T J.A.ZfG]
 have hl:=(ZaO.1 hm).1
 by_cases h0 : ((dl a).length : Int) = 0
 ·repeat (first | simp only [seval,evB,Zlr,ZbJ J,hm,h0] | simp (disch:=omega) only [dsB])
  have e0 : a = 0:=Zan.1 (by omega)
  subst e0; rfl
 ·have hd:=(Zao a).dg ((dl a).length - 1)
  have e:=Zso (n:=a) (by rintro rfl; exact h0 (by rw [Zai]; rfl))
  have h32 : blen (dg (dl a) ((dl a).length - 1))≤32:=Zaf.2 hd
  repeat (first | simp only [seval,evB,Zlr,ZbJ J,hm,h0,Zmh J hd] | simp (disch:=omega) only [dsB])
  exact congrArg (fun n : Int => some (AV.int .i64 n)) (by omega)
theorem ZAI (h : Heap) : ∀ (x n : Nat),x < 4294967296→n + blen x < 1099511627776 →
  ∃ e,evL G T Zgk [(3,.int .i64 (n : Int)),(4,.int .u32 (x : Int))] h = some (.exit 0,(3,.int .i64 ((n + blen x : Nat) : Int)) :: e,h):=by
 intro x
 induction x using Nat.strongRecOn with
 | _ x ih =>
  intro n hx hn
  by_cases h0 : (0 : Int) < x
  ·have hb:=Zaj x 1
   have hp:=ZcV (n:=x) (by omega)
   rw [Nat.pow_one] at hb
   obtain ⟨e,he⟩:=ih (x / 2) (by omega) (n + 1) (by omega) (by omega)
   refine ⟨e,?_⟩
   rw [Zae G T (c:=Zgk) rfl]
   have d1 : (x : Int) / 2 = ((x / 2 : Nat) : Int):=by omega
   have d2 : (n : Int) + 1 = ((n + 1 : Nat) : Int):=by omega
   have : n + 1 + blen (x / 2) = n + blen x:=by omega
   repeat (first | simp only [seval,evB,Zju,h0,d1,d2] | simp (disch:=omega) only [dsB])
   rw [he,this]
  ·have : x = 0:=by omega
   subst this
   refine ⟨[(4,.int .u32 0),(19,.bool false)],?_⟩
   rw [Zae G T (c:=Zgk) rfl]
   repeat (first | simp only [seval,evB,Zju,h0,cast0,Zag,Nat.add_zero,Int.lt_irrefl] | simp (disch:=omega) only [dsB])
theorem Zcp (J : Al G T g) {z : Bool} {a : Nat} (hb : (dl a).length < 17179869184) : run G T 64 [D z (dl a)] = some (.int .i64 ((blen a : Nat) : Int)):=by
 rw [Zab G T J.B.Zcp]
 by_cases h0 : ((dl a).length : Int) = 0
 ·repeat (first | simp only [seval,evB,Zic,h0] | simp (disch:=omega) only [dsB])
  have e0 : a = 0:=Zan.1 (by omega)
  subst e0; rfl
 ·have hd:=(Zao a).dg ((dl a).length - 1)
  have e:=Zso (n:=a) (by rintro rfl; exact h0 (by rw [Zai]; rfl))
  have h32 : blen (dg (dl a) ((dl a).length - 1))≤32:=Zaf.2 hd
  obtain ⟨e',he⟩:=ZAI (G:=G) (T:=T) .nil (dg (dl a) ((dl a).length - 1)) (32 * ((dl a).length - 1)) hd (by omega)
  rw [← e] at he
  have m : 32 * (((dl a).length : Int) - 1) = ((32 * ((dl a).length - 1) : Nat) : Int):=by omega
  repeat (first | simp only [seval,evB,Zic,h0,m,he] | simp (disch:=omega) only [dsB])
theorem Zsm (x : Nat) : x &&& 1 = x % 2:=Nat.and_one_is_mod x
theorem ZjZ (J : Al G T g) {z : Bool} {a i : Nat} (hb : (dl a).length < 17179869184) (hi : i < 1099511627776) : run G T 111 [D z (dl a),.int .i64 (i : Int)] = some (.int .u32 ((a / 2 ^ i % 2 : Nat) : Int)):=by
 rw [Zab G T J.B.ZjZ]
 have h0 : ¬ ((i : Int) < 0):=by omega
 have hw : IntKind.i64.wrap ((i / 32 : Nat) : Int) = ((i / 32 : Nat) : Int):=Zac (by omega)
 by_cases h1 : ((dl a).length : Int)≤((i / 32 : Nat) : Int)
 ·repeat (first | simp only [seval,evB,Zib,h0,hw,h1] | simp (disch:=omega) only [dsB])
  have e:=Zyq a i
  rw [ZkW (by omega)] at e
  simp only [Nat.zero_div,Nat.zero_mod] at e
  rw [← e]; rfl
 ·have hd:=(Zao a).dg (i / 32)
  have w2 : min (i % 32) 32 = i % 32:=by omega
  have hs:=Zxb (s:=i % 32) hd
  have w3 : (dg (dl a) (i / 32) : Int) / 2 ^ (i % 32) = ((dg (dl a) (i / 32) / 2 ^ (i % 32) : Nat) : Int):=by rw [Zbb]; rfl
  have w4 : andI .u32 ((dg (dl a) (i / 32) / 2 ^ (i % 32) : Nat) : Int) 1 = ((a / 2 ^ i % 2 : Nat) : Int):=by
   rw [← Zyq,← Zsm]
   exact and32 hs (b:=1) (by decide)
  repeat (first | simp only [seval,evB,Zib,h0,hw,h1,w2,w3,w4] | simp (disch:=omega) only [dsB])
theorem ZAJ (J : Al G T g) (h : Heap) {a : Nat} {z : Bool} (hb : (dl a).length < 17179869184) : ∀ (m n : Nat),m + n = 32 * (dl a).length→2 ^ n ∣ a→(n % 32 = 0∨dg (dl a) (n / 32)≠0) →
  Post (evL G T Zjv [(0,D z (dl a)),(3,.int .i64 (n : Int))] h) fun r =>
   ∃ (n' : Nat) (e : Env) (h' : Heap),r = (.exit 0,(0,D z (dl a)) :: (3,.int .i64 (n' : Int)) :: e,h')∧(n' = 32 * (dl a).length∧a = 0∨n' < 32 * (dl a).length∧tz a = n'):=by
 intro m
 induction m using Nat.strongRecOn with
 | _ m ih =>
  intro n hm hd hz
  rw [Zae G T (c:=Zjv) rfl]
  have hBit:=ZjZ J (z:=z) (a:=a) (i:=n) hb (by omega)
  have hw : IntKind.i64.wrap ((n / 32 : Nat) : Int) = ((n / 32 : Nat) : Int):=Zac (by omega)
  by_cases h0 : (n : Int) < 32 * (dl a).length
  ·by_cases h1 : ((a / 2 ^ n % 2 : Nat) : Int) = 0
   ·by_cases h2 : (dg (dl a) (n / 32) : Int) = 0
    ·have hn : n % 32 = 0:=by omega
     have e : (n : Int) + 32 = ((n + 32 : Nat) : Int):=by omega
     repeat (first | simp only [seval,evB,ZdY,h0,h1,h2,hBit,hw,e] | simp (disch:=omega) only [dsB])
     refine ih (m - 32) (by omega) (n + 32) (by omega) ?_ (by omega)
     obtain ⟨k,hk⟩:=hd
     have h3 : dg (dl a) (n / 32) = 0:=by omega
     rw [Zpw (Zao a),ZaE,pow32,show 32 * (n / 32) = n by omega] at h3
     have h4 : a / 2 ^ n = k:=by rw [hk,Nat.mul_div_cancel_left _ (Nat.two_pow_pos n)]
     rw [h4] at h3
     obtain ⟨j,hj⟩:=Nat.dvd_of_mod_eq_zero h3
     exact ⟨j,by rw [hk,hj,Nat.pow_add,Nat.mul_assoc]⟩
    ·have e : (n : Int) + 1 = ((n + 1 : Nat) : Int):=by omega
     repeat (first | simp only [seval,evB,ZdY,h0,h1,h2,hBit,hw,e] | simp (disch:=omega) only [dsB])
     refine ih (m - 1) (by omega) (n + 1) (by omega) ?_ ?_
     ·obtain ⟨k,hk⟩:=hd
      have h4 : a / 2 ^ n = k:=by rw [hk,Nat.mul_div_cancel_left _ (Nat.two_pow_pos n)]
      have h3 : k % 2 = 0:=by rw [← h4]; omega
      obtain ⟨j,hj⟩:=Nat.dvd_of_mod_eq_zero h3
      exact ⟨j,by rw [hk,hj,Nat.pow_succ,Nat.mul_assoc]⟩
     ·by_cases h5 : (n + 1) % 32 = 0
      ·exact Or.inl h5
      ·right; rw [show (n + 1) / 32 = n / 32 by omega]; omega
   ·repeat (first | simp only [seval,evB,ZdY,h0,h1,hBit,hw] | simp (disch:=omega) only [dsB])
    refine Post.some ⟨_,_,_,rfl,Or.inr ⟨by omega,?_⟩⟩
    obtain ⟨k,hk⟩:=hd
    have h4 : a / 2 ^ n = k:=by rw [hk,Nat.mul_div_cancel_left _ (Nat.two_pow_pos n)]
    rw [h4] at h1
    rw [hk,Nat.mul_comm]; exact ZfM (by omega)
  ·repeat (first | simp only [seval,evB,ZdY,h0,hBit,hw] | simp (disch:=omega) only [dsB])
   refine Post.some ⟨_,_,_,rfl,Or.inl ⟨by omega,?_⟩⟩
   have hlt:=(Zcl (n:=a) (k:=(dl a).length)).1 (Nat.le_refl _)
   rw [pow32] at hlt
   rw [show n = 32 * (dl a).length by omega] at hd
   exact Nat.eq_zero_of_dvd_of_lt hd hlt
theorem Zof (J : Al G T g) {a : Nat} {z : Bool} (hb : (dl a).length < 17179869184) : run G T 83 [D z (dl a)] = some (.int .i64 ((tz a : Nat) : Int)):=by
 rw [Zab G T J.B.Zof]
 obtain ⟨r,hr,n',e,h',rfl,hp⟩:=ZAJ (G:=G) J .nil (a:=a) (z:=z) hb (32 * (dl a).length) 0 (by omega) (by simp) (Or.inl rfl)
 rw [cast0] at hr
 rcases hp with ⟨h1,rfl⟩ | ⟨h1,h2⟩
 ·have h3 : (n' : Int) = 32 * (dl 0).length:=by omega
  rw [h3] at hr
  repeat (first | simp only [seval,evB,Zid,hr] | simp (disch:=omega) only [dsB])
  rw [ZAA]; rfl
 ·have h3 : ¬ (n' : Int) = 32 * (dl a).length:=by omega
  repeat (first | simp only [seval,evB,Zid,hr,h3] | simp (disch:=omega) only [dsB])
  rw [h2]
theorem ZHM : ∀ k < 32,ntz32[2 ^ k * 125613361 % 4294967296 / 134217728]? = some k:=by decide +kernel
theorem ZIc (J : Al G T g) (h : Mem) {k : Nat} (hk : k < 32) : rdAt G h 1 (.gptr g (2 ^ k * 125613361 % 4294967296 / 134217728)) = some [.int .u8 (k : Int)]:=by
 have e:=ZHM k hk
 generalize 2 ^ k * 125613361 % 4294967296 / 134217728 = i at *
 have hi:=(List.getElem?_eq_some_iff.1 e).1
 have e2 : (ntz32.map fun (d : Nat) => AV.int .u8 (d : Int))[i]? = some (.int .u8 (k : Int)):=by rw [List.getElem?_map,e]; rfl
 have hi2:=(List.getElem?_eq_some_iff.1 e2).1
 simp only [rdAt]
 rw [J.gl]
 simp only
 rw [if_pos (by omega),Zxk _ _ hi2,(List.getElem?_eq_some_iff.1 e2).2]
def tzOps (g : Nat) (c : Int) : List IOper:=[⟨some 5,.mov (.t 0),none⟩,⟨some 6,.mov (.t 0),none⟩,⟨some 7,.un .neg (.t 6),none⟩,⟨some 8,.bin .and (.t 5) (.t 7),none⟩,
 ⟨some 9,.bin .mul (.t 8) (.c (.int .u32 c)),none⟩,⟨some 10,.bin .shr (.t 9) (.c (.int .u64 27)),none⟩,⟨some 11,.iaddrA 32 1 (.g g) (.t 10),none⟩,
 ⟨some 12,.load false 1 (.t 11),none⟩,⟨some 13,.cvt .i64 (.t 12),none⟩,⟨some 2,.mov (.t 13),none⟩]
theorem ZAz (c : Int) {x y p i k : Nat} (w1 : (0 - (x : Int)) % 4294967296 = (y : Int)) (w2 : andI .u32 (x : Int) (y : Int) = (p : Int))
  (w3 : mulW (p : Int) c / 134217728 = (i : Int)) (w5 : iaddrAV 32 1 (.gptr g 0) (.int .u32 (i : Int)) = some (.gptr g i)) (w4 : rdAt G (Heap.mem .nil) 1 (.gptr g i) = some [.int .u8 (k : Int)]) (hk : k < 32) :
  evL G T (.reg (tzOps g c) [2] []) [(0,.int .u32 (x : Int)),(4,.bool false)] .nil = some (.norm,[(2,.int .i64 (k : Int))],.nil):=by
 repeat (first | simp only [seval,evB,tzOps,w1,w2,w3,w4,w5] | simp (disch:=omega) only [dsB])
theorem ZIR (J : Al G T g) {x y p i k : Nat} (hx : x < 4294967296) (h1 : ¬ (x : Int) = 0) (w1 : (0 - (x : Int)) % 4294967296 = (y : Int)) (w2 : andI .u32 (x : Int) (y : Int) = (p : Int))
  (w3 : mulW (p : Int) 125613361 / 134217728 = (i : Int)) (w5 : iaddrAV 32 1 (.gptr g 0) (.int .u32 (i : Int)) = some (.gptr g i)) (w4 : rdAt G (Heap.mem .nil) 1 (.gptr g i) = some [.int .u8 (k : Int)]) (hk : k < 32) :
  run G T 114 [.int .u32 (x : Int)] = some (.int .i64 (k : Int)):=by
 have hC:=ZAz (G:=G) (T:=T) (g:=g) 125613361 w1 w2 w3 w5 w4 hk
 have hB : evL G T (.seq (.reg [⟨some 3,.mov (.t 0),none⟩,⟨some 4,.bin .eql (.t 3) (.c (.int .u32 0)),none⟩] [0,4] []) (.cond (.t 4) (.seq (.reg [⟨some 2,.mov (.c (.int .i64 32)),none⟩] [2] []) .ret) .skip)) [(0,.int .u32 (x : Int))] .nil = some (.norm,[(0,.int .u32 (x : Int)),(4,.bool false)],.nil):=by
  repeat (first | simp only [seval,evB,h1] | simp (disch:=omega) only [dsB])
 have hA : evL G T (.reg [⟨some 2,.mov (.c (.int .i64 0)),none⟩] [0] []) (numE 0 [.int .u32 (x : Int)]) .nil = some (.norm,[(0,.int .u32 (x : Int))],.nil):=by
  repeat (first | simp only [seval,evB] | simp (disch:=omega) only [dsB])
 have e : (ZaT g).body = .seq (.reg [⟨some 2,.mov (.c (.int .i64 0)),none⟩] [0] []) (.seq (.seq (.reg [⟨some 3,.mov (.t 0),none⟩,⟨some 4,.bin .eql (.t 3) (.c (.int .u32 0)),none⟩] [0,4] []) (.cond (.t 4) (.seq (.reg [⟨some 2,.mov (.c (.int .i64 32)),none⟩] [2] []) .ret) .skip)) (.seq (.reg (tzOps g 125613361) [2] []) .ret)):=rfl
 have e2 : (ZaT g).res = [.tmp 2]:=rfl
 rw [Zab G T J.A.bits_TrailingZeros32,e,e2,ZCs,hA,ZsE,ZCs,hB,ZsE,ZCs,hC,ZsE,ZyP]
 repeat (first | simp only [seval,evB] | simp (disch:=omega) only [dsB])
theorem ZEc (J : Al G T g) {x : Nat} (h0 : x≠0) (hx : x < 4294967296) : run G T 114 [.int .u32 (x : Int)] = some (.int .i64 ((tz x : Nat) : Int)):=by
 have ⟨hl,hk⟩:=Zvo h0 hx
 obtain ⟨y,hy⟩ : ∃ y,y = 4294967296 - x:=⟨_,rfl⟩
 rw [← hy] at hl
 obtain ⟨i,hi⟩ : ∃ i,i = 2 ^ tz x * 125613361 % 4294967296 / 134217728:=⟨_,rfl⟩
 have w4:=ZIc J (Heap.mem .nil) hk
 rw [← hi] at w4
 refine ZIR J (y:=y) (p:=2 ^ tz x) (i:=i) hx (by omega) (by omega) ?_ ?_ ?_ w4 hk
 ·rw [and32 hx (by omega),hl]
 ·have hc : mulW ((2 ^ tz x : Nat) : Int) 125613361 = ((2 ^ tz x * 125613361 % 4294967296 : Nat) : Int):=by
   rw [Zvp,Int.natCast_emod,Int.natCast_mul]; simp only [Int.cast_ofNat_Int]
  rw [hc,hi,Int.natCast_ediv]; rfl
 ·simp only [iaddrAV]
  rw [if_pos (by omega),Int.toNat_natCast,Nat.mul_one,Nat.zero_add]
theorem ZqI (J : Al G T g) (h : Heap) {a : List Nat} {z : Bool} (hd : Dg a) (hs : a.length≤4096) : ∀ (m i : Nat),m + i = a.length→val (a.take i) = 0 →
  Post (evL G T ZiH [(8,D z a),(9,.int .i64 ((a.length : Nat) : Int)),(10,.int .i64 (i : Int))] h) fun r =>
   ∃ e h',r = (.exit 0,e,h')∧val a = 0∨r = (.ret,[(2,.int .i64 ((tz (val a) : Nat) : Int))],h')
 | 0,i,hm,hv => by
  rw [Zae G T (c:=ZiH) rfl]
  have h1 : ¬ (i : Int) < a.length:=by omega
  repeat (first | simp only [seval,evB,ZiG,h1] | simp (disch:=omega) only [dsB])
  rw [List.take_of_length_le (by omega)] at hv
  exact Post.some ⟨_,_,Or.inl ⟨rfl,hv⟩⟩
 | m + 1,i,hm,hv => by
  rw [Zae G T (c:=ZiH) rfl]
  have h1 : (i : Int) < a.length:=by omega
  have e : (i : Int) + 1 = ((i + 1 : Nat) : Int):=by omega
  by_cases h2 : (dg a i : Int) = 0
  ·repeat (first | simp only [seval,evB,ZiG,h1,h2,e] | simp (disch:=omega) only [dsB])
   exact ZqI J h hd hs m (i + 1) (by omega) (by rw [Zad,hv,show dg a i = 0 by omega,Nat.mul_zero])
  ·have ht:=ZEc (G:=G) J (x:=dg a i) (by omega) (hd.dg i)
   have hk:=(Zvo (x:=dg a i) (by omega) (hd.dg i)).2
   have e2 : (32 * (i : Int) + ((tz (dg a i) : Nat) : Int)) = ((tz (val a) : Nat) : Int):=by
    rw [ZIP hd (by omega) hv (by omega)]; omega
   repeat (first | simp only [seval,evB,ZiG,h1,h2,e,ht,e2] | simp (disch:=omega) only [dsB])
   exact Post.some ⟨[],_,Or.inr rfl⟩
theorem ZsM (J : Al G T g) {a : Nat} {z : Bool} (hm : mayL (dl a) = true) : run G T 90 [D z (dl a)] = some (.int .i64 ((tz a : Nat) : Int)):=by
 rw [Zab G T J.A.ZsM]
 obtain ⟨r,hr,e,h',hp⟩:=ZqI J .nil (z:=z) (Zao a) (ZaO.1 hm).1 (dl a).length 0 (by omega) rfl
 rw [cast0] at hr
 rw [ZaE] at hp
 rcases hp with ⟨rfl,rfl⟩ | rfl
 ·repeat (first | simp only [seval,evB,Zls,ZbJ J,hm,hr] | simp (disch:=omega) only [dsB])
  rw [ZAA]; rfl
 ·repeat (first | simp only [seval,evB,Zls,ZbJ J,hm,hr] | simp (disch:=omega) only [dsB])
theorem ZxF {a i s : Nat} (hs : s < 32) : (dg (dl a) i / 2 ^ s ||| dg (dl a) (i + 1) * 2 ^ (32 - s)) % 4294967296 = a / 2 ^ (32 * i + s) % 4294967296:=by
 have e1:=Zwk (a / 4294967296 ^ i) hs
 rw [Nat.div_div_eq_div_mul,← Nat.pow_succ] at e1
 rw [Zpw (Zao a),Zpw (Zao a),ZaE,e1,pow32,Nat.div_div_eq_div_mul,← Nat.pow_add]
theorem ZwG (A p d : Nat) (hd : d = A / p % 4294967296) (hp : 0 < p) : A % p + p * d = A % (p * 4294967296):=by
 subst hd; rw [Nat.mod_mul]
theorem ZpW {a : Nat} {z lost : Bool} {q s : Nat} (hs : s < 32) (hb : (dl a).length < 17179869184) : ∀ (m i : Nat) (h : Heap) (v : AV) (l : List Nat),
  m + q + i = (dl a).length→Bld h v l→Dg l→l.length = i→val l = a / 2 ^ (32 * q + s) % 4294967296 ^ i →
  Post (evL G T Zfa [(0,D z (dl a)),(6,.bool lost),(7,v),(8,.int .i64 (s : Int)),(9,.int .i64 ((q + i : Nat) : Int))] h) fun r =>
   ∃ e h' v' l',r = (.exit 0,(0,D z (dl a)) :: (6,.bool lost) :: (7,v') :: e,h')∧Bld h' v' l'∧Dg l'∧l'.length≤(dl a).length∧val l' = a / 2 ^ (32 * q + s)
 | 0,i,h,v,l,hm,B,hd,hl,he => by
  rw [Zae G T (c:=Zfa) rfl]
  have h1 : ¬ ((q + i : Nat) : Int) < (dl a).length:=by omega
  repeat (first | simp only [seval,evB,ZeZ,h1] | simp (disch:=omega) only [dsB])
  refine Post.some ⟨_,_,_,_,rfl,B,hd,by omega,?_⟩
  rw [he,Nat.mod_eq_of_lt]
  have hlt:=(Zcl (n:=a) (k:=(dl a).length)).1 (Nat.le_refl _)
  rw [Nat.div_lt_iff_lt_mul (Nat.two_pow_pos _),pow32,← Nat.pow_add]
  rw [pow32] at hlt
  exact Nat.lt_of_lt_of_le hlt (Nat.pow_le_pow_right (by decide) (by omega))
 | m + 1,i,h,v,l,hm,B,hd,hl,he => by
  rw [Zae G T (c:=Zfa) rfl]
  have h1 : ((q + i : Nat) : Int) < (dl a).length:=by omega
  have hx:=(Zao a).dg (q + i)
  have hy:=(Zao a).dg (q + i + 1)
  have e7 : ((q + i : Nat) : Int) + 1 = ((q + i + 1 : Nat) : Int):=by omega
  have w1 : (dg (dl a) (q + i) : Int) % 18446744073709551616 = dg (dl a) (q + i):=by omega
  have w1' : (dg (dl a) (q + i + 1) : Int) % 18446744073709551616 = dg (dl a) (q + i + 1):=by omega
  have w2 : min s 64 = s:=by omega
  have w3 : (dg (dl a) (q + i) : Int) / 2 ^ s = ((dg (dl a) (q + i) / 2 ^ s : Nat) : Int):=by rw [Zbb]; rfl
  have w4 : (32 - (s : Int)) = ((32 - s : Nat) : Int):=by omega
  have w5 : min (32 - s) 64 = 32 - s:=by omega
  have p32 : (2 : Nat) ^ (32 - s)≤2 ^ 32:=Nat.pow_le_pow_right (by decide) (by omega)
  have q32 : dg (dl a) (q + i + 1) * 2 ^ (32 - s)≤4294967295 * 2 ^ 32:=Nat.mul_le_mul (by omega) p32
  have w6 : (dg (dl a) (q + i + 1) : Int) * 2 ^ (32 - s) % 18446744073709551616 = ((dg (dl a) (q + i + 1) * 2 ^ (32 - s) : Nat) : Int):=by
   rw [Zbb,← Int.natCast_mul]; omega
  have s3:=Zxb (s:=s) hx
  have w7 : orI .u64 ((dg (dl a) (q + i) / 2 ^ s : Nat) : Int) ((dg (dl a) (q + i + 1) * 2 ^ (32 - s) : Nat) : Int) = ((dg (dl a) (q + i) / 2 ^ s ||| dg (dl a) (q + i + 1) * 2 ^ (32 - s) : Nat) : Int) :=
   or64 (by omega) (by omega)
  have key:=ZxF (a:=a) (i:=q + i) hs
  have fin : ∀ d : Int,d = ((a / 2 ^ (32 * (q + i) + s) % 4294967296 : Nat) : Int)→val (l ++ [d.toNat]) = a / 2 ^ (32 * q + s) % 4294967296 ^ (i + 1):=by
   intro d hdd
   rw [Zeq,hl,he,hdd,Int.toNat_natCast,Nat.pow_succ]
   apply ZwG
   ·rw [pow32,Nat.div_div_eq_div_mul,← Nat.pow_add]; congr 3; omega
   ·rw [pow32]; exact Nat.two_pow_pos _
  by_cases h2 : ((q + i + 1 : Nat) : Int) < (dl a).length
  ·repeat (first | simp only [seval,evB,ZeZ,h1,h2,w1,w1',w2,w3,w4,w5,w6,w7,e7 ] | simp (disch:=omega) only [dsB,ZmS B])
   exact ZpW hs hb m (i + 1) _ _ _ (by omega) (ZdV B (by omega) (by omega)).2 (Zcv hd (by omega)) (by rw [List.length_append,hl]; rfl) (fin _ (by omega))
  ·rw [ZkW (l:=dl a) (i:=q + i + 1) (by omega),Nat.zero_mul,Nat.or_zero] at key
   repeat (first | simp only [seval,evB,ZeZ,h1,h2,w1,w1',w2,w3,w4,w5,w6,w7,e7 ] | simp (disch:=omega) only [dsB,ZmS B])
   exact ZpW hs hb m (i + 1) _ _ _ (by omega) (ZdV B (by omega) (by omega)).2 (Zcv hd (by omega)) (by rw [List.length_append,hl]; rfl) (fin _ (by omega))
theorem ZCO {a n : Nat} (h : a≠0) : tz a < n↔a % 2 ^ n≠0:=by
 have ⟨h1,h2⟩:=ZfL h
 constructor
 ·intro hn h0
  obtain ⟨k,hk⟩:=Nat.dvd_of_mod_eq_zero h0
  have e : a / 2 ^ tz a = 2 ^ (n - tz a) * k:=by
   have : a = 2 ^ tz a * (2 ^ (n - tz a) * k):=by rw [← Nat.mul_assoc,← Nat.pow_add,show tz a + (n - tz a) = n by omega]; exact hk
   exact Nat.div_eq_of_eq_mul_right (Nat.two_pow_pos _) this
  obtain ⟨j,hj⟩ : ∃ j,n - tz a = j + 1:=⟨n - tz a - 1,by omega⟩
  rw [e,hj,Nat.pow_succ,Nat.mul_assoc,Nat.mul_left_comm] at h2
  omega
 ·intro hn
  rcases Nat.lt_or_ge (tz a) n with h3 | h3
  ·exact h3
  ·exfalso; apply hn
   rw [h1]
   apply Nat.mod_eq_zero_of_dvd
   exact Nat.dvd_trans (Nat.pow_dvd_pow 2 h3) (Nat.dvd_mul_left ..)
theorem ZhN (J : Al G T g) {z : Bool} {a n : Nat} (hb : (dl a).length < 17179869184) (hn : n < 1099511627776) :
  ∃ z',run G T 84 [D z (dl a),.int .i64 (n : Int)] = some (.tup [D z' (dl (a / 2 ^ n)),.bool (!decide (a % 2 ^ n = 0))]):=by
 apply exP
 rw [Zab G T J.B.ZhN]
 have hL:=Zcp J (z:=z) hb
 have hlo:=Zof J (z:=z) hb
 by_cases h0 : ((blen a : Nat) : Int)≤n
 ·have hlt : a < 2 ^ n:=Zaf.1 (by omega)
  repeat (first | simp only [seval,evB,ZgF,hL,h0] | simp (disch:=omega) only [dsB])
  refine Post.some ⟨true,?_⟩
  rw [Nat.div_eq_of_lt hlt,Nat.mod_eq_of_lt hlt,Zai,Ztx]
  have : ((0 : Int) < ((dl a).length : Nat))↔¬ a = 0:=by
   have:=@Zan a; omega
  simp only [this,decide_not]
 ·have hne : a≠0:=by rintro rfl; rw [Zag] at h0; omega
  have hr1 : n / 32≤(dl a).length:=by have:=Zaa a; omega
  obtain ⟨r,hr,e,h',v',l',rfl,B,hd,hl,hv⟩:=ZpW (G:=G) (T:=T) (z:=z) (a:=a) (lost:=decide (((tz a : Nat) : Int) < n)) (q:=n / 32) (s:=n % 32) (by omega) hb ((dl a).length - n / 32) 0 .nil .nil [] (by omega) Zsh Dg.nil rfl (by rw [Nat.pow_zero,Nat.mod_one]; rfl)
  have hw : IntKind.i64.wrap ((n / 32 : Nat) : Int) = ((n / 32 : Nat) : Int):=Zac (by omega)
  rw [Nat.add_zero] at hr
  obtain ⟨z',hz⟩:=ZcQ J (z:=isN v') hd (by omega)
  rw [hv,show 32 * (n / 32) + n % 32 = n by omega] at hz
  have ht : decide (((tz a : Nat) : Int) < n) = decide (a % 2 ^ n≠0):=by
   apply decide_eq_decide.2
   rw [← ZCO hne]; omega
  repeat (first | simp only [seval,evB,ZgF,hL,hlo,h0,hw,hr,B.snap,hz] | simp (disch:=omega) only [dsB])
  rw [ht,decide_not]
  exact Post.some ⟨z',rfl⟩
theorem Ztn {h : Heap} {b : Nat} {L : List Nat} (H : Holds h b L) (hd : Dg L) (hs : L.length < 1099511627776) : ∀ n : Nat,n≤L.length →
  ∃ (n' : Nat) (e' : Env),evL G T Zbr [(0,.own b 0 n 1)] h = some (.exit 0,(0,.own b 0 n' 1) :: e',h)∧n'≤L.length∧L.take n' = dl (val (L.take n))
 | 0,hn => by
  refine ⟨0,[(14,.bool false)],?_,hn,by rw [List.take_zero,Ztp,Zai]⟩
  rw [Zae G T (c:=Zbr) rfl]
  repeat (first | simp only [seval,evB,Zcx,cast0,Int.lt_irrefl] | simp (disch:=omega) only [dsB])
 | n + 1,hn => by
  have h0 : (0 : Int) < ((n + 1 : Nat) : Int):=by omega
  have e1 : ((n + 1 : Nat) : Int) - 1 = n:=by omega
  by_cases h1 : (dg L n : Int) = 0
  ·obtain ⟨n',e',ih,hk,ht⟩:=Ztn H hd hs n (by omega)
   refine ⟨n',e',?_,hk,?_⟩
   ·rw [Zae G T (c:=Zbr) rfl]
    repeat (first | simp only [seval,evB,Zcx,h0,e1,h1 ] | simp (disch:=omega) only [dsB,Zjf,H,ZDC H.mem])
    rw [ih]
   ·rw [ht,Zad,show dg L n = 0 by omega,Nat.mul_zero,Nat.add_zero]
  ·refine ⟨n + 1,[(14,.bool false)],?_,hn,?_⟩
   ·rw [Zae G T (c:=Zbr) rfl]
    repeat (first | simp only [seval,evB,Zcx,h0,e1,h1 ] | simp (disch:=omega) only [dsB,Zjf,H])
   ·rw [Zwl (hd.take _)]
    right
    have : (L.take (n + 1)).length = n + 1:=by rw [List.length_take]; omega
    rw [this,Nat.add_sub_cancel,Zhg (by omega),List.getElem_take,← Zhg]; omega
theorem Zti {x s : Nat} (hs : s≤32) : x * 2 ^ s % 4294967296 = x % 2 ^ (32 - s) * 2 ^ s:=by
 have e : (4294967296 : Nat) = 2 ^ (32 - s) * 2 ^ s:=by rw [← Nat.pow_add,show 32 - s + s = 32 by omega]
 rw [e,Nat.mul_mod_mul_right]
theorem ZuI {x s : Nat} (hs : s≤32) : x / 2 ^ (32 - s) = x * 2 ^ s / 4294967296:=by
 have e : (4294967296 : Nat) = 2 ^ (32 - s) * 2 ^ s:=by rw [← Nat.pow_add,show 32 - s + s = 32 by omega]
 rw [e,Nat.mul_div_mul_right _ _ (Nat.two_pow_pos s)]
theorem ZAB {a : List Nat} {z : Bool} {q s : Nat} (ha : Dg a) (hs : s < 32) (hb : q + a.length < 549755813888) : ∀ (m i : Nat) (h : Heap) (v : AV) (l : List Nat) (c : Nat),
  m + i = a.length→Bld h v l→Dg l→l.length = q + i→c < 2 ^ s→val l + 4294967296 ^ (q + i) * c = 4294967296 ^ q * 2 ^ s * val (a.take i) →
  Post (evL G T Zet [(5,v),(6,.int .i64 (s : Int)),(7,.int .u32 (c : Int)),(24,D z a),(25,.int .i64 ((a.length : Nat) : Int)),(26,.int .i64 (i : Int))] h) fun r =>
   ∃ e h' v' l',∃ c' : Nat,r = (.exit 0,(5,v') :: (6,.int .i64 (s : Int)) :: (7,.int .u32 (c' : Int)) :: e,h')∧Bld h' v' l'∧Dg l'∧l'.length = q + a.length∧c' < 2 ^ s∧val (l' ++ [c']) = 4294967296 ^ q * 2 ^ s * val a
 | 0,i,h,v,l,c,hm,B,hd,hl,hc,he => by
  rw [Zae G T (c:=Zet) rfl]
  have h1 : ¬ (i : Int) < a.length:=by omega
  repeat (first | simp only [seval,evB,Zia,h1] | simp (disch:=omega) only [dsB])
  refine Post.some ⟨_,_,_,_,_,rfl,B,hd,by omega,hc,?_⟩
  rw [List.take_of_length_le (by omega)] at he
  rw [Zeq,hl,he]
 | m + 1,i,h,v,l,c,hm,B,hd,hl,hc,he => by
  rw [Zae G T (c:=Zet) rfl]
  have ha':=ha.dg i
  have e7 : (i : Int) + 1 = ((i + 1 : Nat) : Int):=by omega
  have h1 : (i : Int) < a.length:=by omega
  have hk:=Zsp hc ha'
  have hp : (2 : Nat) ^ s≤2 ^ 31:=Nat.pow_le_pow_right (by decide) (by omega)
  have w1 : (dg a i : Int) % 18446744073709551616 = dg a i:=by omega
  have w2 : min s 32 = s:=by omega
  have w3 : (dg a i : Int) * 2 ^ s % 4294967296 = ((dg a i * 2 ^ s % 4294967296 : Nat) : Int):=by
   rw [Zbb,← Int.natCast_mul]; omega
  have w4 : orI .u32 ((dg a i * 2 ^ s % 4294967296 : Nat) : Int) (c : Int) = ((c + dg a i * 2 ^ s % 4294967296 : Nat) : Int):=by
   rw [or32 (by omega) (by omega),Nat.or_comm,Zti (by omega),ZmX hc]
  have w5 : (32 - (s : Int)) = ((32 - s : Nat) : Int):=by omega
  have w6 : min (32 - s) 64 = 32 - s:=by omega
  have w7 : (dg a i : Int) / 2 ^ (32 - s) = ((dg a i / 2 ^ (32 - s) : Nat) : Int):=by rw [Zbb]; rfl
  have hsm : dg a i * 2 ^ s % 4294967296 + c < 4294967296:=by
   have e0:=Zti (x:=dg a i) (s:=s) (by omega)
   have e1 : dg a i % 2 ^ (32 - s) < 2 ^ (32 - s):=Nat.mod_lt _ (Nat.two_pow_pos _)
   have e2 : (dg a i % 2 ^ (32 - s) + 1) * 2 ^ s≤2 ^ (32 - s) * 2 ^ s:=Nat.mul_le_mul_right _ e1
   rw [← Nat.pow_add,show 32 - s + s = 32 by omega,Nat.add_mul] at e2
   omega
  have hcd : (dg a i * 2 ^ s % 4294967296 + c) + 4294967296 * (dg a i * 2 ^ s / 4294967296) = c + dg a i * 2 ^ s:=by omega
  have hcl : dg a i * 2 ^ s / 4294967296 < 2 ^ s:=by
   refine Nat.lt_of_le_of_lt ?_ hk
   exact Nat.div_le_div_right (by omega)
  have w8 : ((dg a i / 2 ^ (32 - s) : Nat) : Int) % 4294967296 = ((dg a i * 2 ^ s / 4294967296 : Nat) : Int):=by
   rw [ZuI (by omega)]; omega
  repeat (first | simp only [seval,evB,Zia,h1,w1,w2,w3,w4,w5,w6,w7,w8 ] | simp (disch:=omega) only [dsB,ZmS B])
  rw [e7]
  refine ZAB ha hs hb m (i + 1) _ _ _ _ (by omega) (ZdV B (by omega) (by omega)).2 (Zcv hd (by omega)) (by rw [List.length_append,hl]; rfl) hcl ?_
  rw [Zad]
  refine ZvO (j:=q + i) (q:=q) (i:=i) hl rfl he ?_
  rw [Int.toNat_natCast,Nat.add_comm c]; exact hcd
theorem Ztq (k : Nat) : val (List.replicate k 0) = 0:=by
 induction k with
 | zero => rfl
 | succ k ih => rw [List.replicate_succ,ZaD,ih]
theorem Zum (J : Al G T g) {z : Bool} {a n : Nat} (hs : (dl a).length < 137438953472) (hn : n < 1099511627776) : ∃ z',run G T 91 [D z (dl a),.int .i64 (n : Int)] = some (D z' (dl (a * 2 ^ n))):=by
 apply exP
 rw [Zab G T J.A.Zum]
 by_cases h0 : ((dl a).length : Int) = 0
 ·repeat (first | simp only [seval,evB,ZiO,h0] | simp (disch:=omega) only [dsB])
  have : a = 0:=ZgR.1 (List.length_eq_zero_iff.1 (by omega))
  subst this
  exact Post.some ⟨true,by rw [Nat.zero_mul,Zai]; rfl⟩
 ·have hnm : n / 32≤n / 32 + (dl a).length + 1:=by omega
  obtain ⟨r,hr,e,h',v',l',c',rfl,B,hd,hl,hc,hv⟩:=ZAB (G:=G) (T:=T) (z:=z) (q:=n / 32) (s:=n % 32) (Zao a) (by omega) (by omega) (dl a).length 0 _ _ _ 0 rfl (ZvU FreH.nil (n / 32) _ hnm) (ZjF _) (by simp) (Nat.two_pow_pos _) (by simp [Ztq,val])
  rw [cast0] at hr
  have hp : c' < 4294967296:=by
   have : (2 : Nat) ^ (n % 32)≤2 ^ 31:=Nat.pow_le_pow_right (by decide) (by omega)
   omega
  have m1 : (((n / 32 : Nat) : Int) + ((dl a).length : Nat) + 1).toNat = n / 32 + (dl a).length + 1:=by omega
  obtain ⟨hap,HB,B2⟩:=ZnD B (w:=(c' : Int)) (by omega) (by omega)
  rw [Int.toNat_natCast] at HB
  have hd2:=Zcv hd hp
  have hlen : (l' ++ [c']).length = l'.length + 1:=by rw [List.length_append]; rfl
  obtain ⟨n',e',ht,hn',htk⟩:=Ztn (G:=G) (T:=T) HB hd2 (by omega) (l'.length + 1) (by omega)
  rw [← hlen,List.take_length,hv,ZaE,pow32,← Nat.pow_add,show 32 * (n / 32) + n % 32 = n by omega,Nat.mul_comm] at htk
  have hsn:=Zch HB hn'
  rw [htk] at hsn
  have hw1 : IntKind.i64.wrap ((n / 32 : Nat) : Int) = ((n / 32 : Nat) : Int):=Zac (by omega)
  repeat (first | simp only [seval,evB,ZiO,h0,hw1,m1,hr,hap,Zjn G T J.A.Zcg,ZhK,ht,hsn] | simp (disch:=omega) only [dsB])
  exact Post.some ⟨_,rfl⟩
theorem ZcU {h : Heap} {b : Nat} {l : List Nat} (H : Holds h b l) {i x : Nat} (hi : i < l.length) : storeV h 1 (.ptr b i) (.int .u32 (x : Int)) = some (.tup [],put h b (l.set i x)):=by
 have:=ZGb H (i:=i) (x:=(x : Int)) ⟨hi,Int.natCast_nonneg x⟩
 rw [Int.toNat_natCast] at this; exact this
theorem Zxl {l : List Nat} {i d : Nat} (h : i < l.length) : (l.set i d).take (i + 1) = l.take i ++ [d]:=by
 rw [Zmf (by rw [List.length_set]; exact h),Zhg (by rw [List.length_set]; exact h),List.getElem_set_self,List.take_set_of_le (Nat.le_refl _)]
theorem ZeB {l : List Nat} {i d : Nat} (h : Dg l) (hd : d < 4294967296) : Dg (l.set i d):=fun x hx => by
 rcases List.mem_or_eq_of_mem_set hx with h1 | h1
 ·exact h x h1
 ·omega
theorem ZDj {l : List Nat} {i d : Nat} (h : i < l.length) : dg (l.set i d) i = d:=by
 rw [Zhg (by rw [List.length_set]; exact h),List.getElem_set_self]
theorem ZBc {L : List Nat} (hd : Dg L) {i s : Nat} (hs : s < 32) : dg L i / 2 ^ s ||| dg L (i + 1) * 2 ^ (32 - s) % 4294967296 = val L / 2 ^ (32 * i + s) % 4294967296:=by
 have e1:=Zwk (val L / 4294967296 ^ i) hs
 rw [Nat.div_div_eq_div_mul,← Nat.pow_succ] at e1
 rw [← Zpw hd,← Zpw hd,Nat.div_div_eq_div_mul,pow32,← Nat.pow_add] at e1
 rw [← e1]
 have h:=Nat.or_mod_two_pow (a:=dg L i / 2 ^ s) (b:=dg L (i + 1) * 2 ^ (32 - s)) (n:=32)
 simp only [Nat.reducePow] at h
 rw [h,Nat.mod_eq_of_lt (Zxb (hd.dg i))]
theorem Zqn {L : List Nat} {z : Bool} {s b : Nat} (hL : Dg L) (hs : s < 32) (hb : L.length < 17179869184) : ∀ (m i : Nat) (h : Heap) (l : List Nat),
  m + i = L.length→Holds h b l→Dg l→l.length = L.length→val (l.take i) = val L / 2 ^ s % 4294967296 ^ i →
  Post (evL G T Zhs [(0,D z L),(5,.int .i64 (s : Int)),(6,.own b 0 L.length 1),(23,D z L),(24,.int .i64 ((L.length : Nat) : Int)),(25,.int .i64 (i : Int))] h) fun r =>
   ∃ e h' l',r = (.exit 0,(0,D z L) :: (5,.int .i64 (s : Int)) :: (6,.own b 0 L.length 1) :: e,h')∧Holds h' b l'∧Dg l'∧l'.length = L.length∧val l' = val L / 2 ^ s
 | 0,i,h,l,hm,H,hd,hl,he => by
  rw [Zae G T (c:=Zhs) rfl]
  have h1 : ¬ (i : Int) < L.length:=by omega
  repeat (first | simp only [seval,evB,Zhr,h1] | simp (disch:=omega) only [dsB])
  refine Post.some ⟨_,_,_,rfl,H,hd,hl,?_⟩
  rw [List.take_of_length_le (by omega)] at he
  rw [he,Nat.mod_eq_of_lt]
  refine Nat.lt_of_le_of_lt (Nat.div_le_self ..) ?_
  rw [show i = L.length by omega]; exact ZfN hL
 | m + 1,i,h,l,hm,H,hd,hl,he => by
  rw [Zae G T (c:=Zhs) rfl]
  have h1 : (i : Int) < L.length:=by omega
  have hx:=hL.dg i
  have hy:=hL.dg (i + 1)
  have e7 : (i : Int) + 1 = ((i + 1 : Nat) : Int):=by omega
  have w1 : (dg L (i + 1) : Int) % 18446744073709551616 = dg L (i + 1):=by omega
  have w2 : min s 32 = s:=by omega
  have w3 : (dg L i : Int) / 2 ^ s = ((dg L i / 2 ^ s : Nat) : Int):=by rw [Zbb]; rfl
  have w4 : (32 - (s : Int)) = ((32 - s : Nat) : Int):=by omega
  have w5 : min (32 - s) 64 = 32 - s:=by omega
  have p32 : (2 : Nat) ^ (32 - s)≤2 ^ 32:=Nat.pow_le_pow_right (by decide) (by omega)
  have q32 : dg L (i + 1) * 2 ^ (32 - s)≤4294967295 * 2 ^ 32:=Nat.mul_le_mul (by omega) p32
  have w6 : (dg L (i + 1) : Int) * 2 ^ (32 - s) % 18446744073709551616 % 4294967296 = ((dg L (i + 1) * 2 ^ (32 - s) % 4294967296 : Nat) : Int):=by
   rw [Zbb,← Int.natCast_mul]; omega
  have s3:=Zxb (s:=s) hx
  have w7 : orI .u32 ((dg L i / 2 ^ s : Nat) : Int) ((dg L (i + 1) * 2 ^ (32 - s) % 4294967296 : Nat) : Int) = ((dg L i / 2 ^ s ||| dg L (i + 1) * 2 ^ (32 - s) % 4294967296 : Nat) : Int) :=
   or32 s3 (by omega)
  have key:=ZBc hL (i:=i) hs
  have hil : i < l.length:=by omega
  have fin : ∀ d : Nat,d = val L / 2 ^ (32 * i + s) % 4294967296→val ((l.set i d).take (i + 1)) = val L / 2 ^ s % 4294967296 ^ (i + 1):=by
   intro d hdd
   rw [Zxl hil,Zeq,List.length_take,Nat.min_eq_left (by omega),he,Nat.pow_succ]
   apply ZwG
   ·rw [hdd,pow32,Nat.div_div_eq_div_mul,← Nat.pow_add,Nat.add_comm s]
   ·rw [pow32]; exact Nat.two_pow_pos _
  by_cases h2 : ((i + 1 : Nat) : Int) < L.length
  ·have H1:=H.put (l.set i (dg L i / 2 ^ s))
   have hi1 : i < (l.set i (dg L i / 2 ^ s)).length:=by rw [List.length_set]; exact hil
   repeat (first | simp only [seval,evB,Zhr,h1,h2,w1,w2,w3,w4,w5,w6,w7,e7,ZDj hil,ZlP,List.set_set ] | simp (disch:=omega) only [dsB,Zjf,H1,ZcU H,ZcU H1])
   refine Zqn hL hs hb m (i + 1) _ _ (by omega) (H.put _) (ZeB hd ?_) (by rw [List.length_set]; exact hl) (fin _ key)
   rw [key]; omega
  ·rw [ZkW (l:=L) (i:=i + 1) (by omega),Nat.zero_mul,Nat.zero_mod,Nat.or_zero] at key
   repeat (first | simp only [seval,evB,Zhr,h1,h2,w1,w2,w3,w4,w5,w6,w7,e7 ] | simp (disch:=omega) only [dsB,ZcU H])
   exact Zqn hL hs hb m (i + 1) _ _ (by omega) (H.put _) (ZeB hd s3) (by rw [List.length_set]; exact hl) (fin _ key)
theorem ZnX (J : Al G T g) {z : Bool} {a n : Nat} (hb : (dl a).length < 17179869184) (hn : n < 1099511627776) : ∃ z',run G T 89 [D z (dl a),.int .i64 (n : Int)] = some (D z' (dl (a / 2 ^ n))):=by
 apply exP
 rw [Zab G T J.A.ZnX]
 have hw : IntKind.i64.wrap ((n / 32 : Nat) : Int) = ((n / 32 : Nat) : Int):=Zac (by omega)
 by_cases h0 : ((dl a).length : Int)≤((n / 32 : Nat) : Int)
 ·repeat (first | simp only [seval,evB,ZjP,hw,h0] | simp (disch:=omega) only [dsB])
  refine Post.some ⟨true,?_⟩
  have h1 : blen a≤n:=by have:=Zaa a; omega
  rw [Nat.div_eq_of_lt (Zaf.1 h1),Zai]; rfl
 ·have hL : Dg ((dl a).drop (n / 32)):=(Zao a).drop _
  have hlen : ((dl a).drop (n / 32)).length = (dl a).length - n / 32:=List.length_drop ..
  obtain ⟨r,hr,e,h',l',rfl,H,hd,hl,hv⟩:=Zqn (G:=G) (T:=T) (z:=zz z (dl a)) (s:=n % 32) (b:=Heap.nil.b.length) hL (by omega) (by omega) ((dl a).drop (n / 32)).length 0 (new .nil (List.replicate ((dl a).drop (n / 32)).length 0)) _ (by omega) (ZbA FreH.nil _) (ZjF _) (by rw [List.length_replicate]) (by rw [Nat.pow_zero,Nat.mod_one]; rfl)
  rw [cast0] at hr
  have hsn:=Zch H (n:=((dl a).drop (n / 32)).length) (by omega)
  rw [← hl,List.take_length] at hsn
  obtain ⟨z',hz⟩:=Zcg J (z:=false) hd (by omega)
  rw [hv,ZpT (Zao a),ZaE,pow32,Nat.div_div_eq_div_mul,← Nat.pow_add,show 32 * (n / 32) + n % 32 = n by omega] at hz
  rw [hl] at hsn
  repeat (first | simp only [seval,evB,ZjP,hw,h0,hr,hsn,hz] | simp (disch:=omega) only [dsB])
  exact Post.some ⟨_,rfl⟩
theorem ZdM {a : Nat} (hm : mayL (dl a) = true) : blen a≤131072:=by
 have:=(ZaO.1 hm).1; have:=Zaa a; omega
theorem ZgA (J : Al G T g) {z : Bool} {a n : Nat} (hm : mayL (dl a) = true) (h0 : 0 < n) (hn : n < 1099511627776) :
  ∃ z',run G T 50 [D z (dl a),.int .i64 (-(n : Int))] = some (.tup [D z' (dl (a / 2 ^ n)),.bool (!decide (a % 2 ^ n = 0)),.int .i64 0]):=by
 apply exP
 rw [Zab G T J.A.nat_Shift]
 have hl:=(ZaO.1 hm).1
 have hbl:=ZdM hm
 by_cases h1 : ((dl a).length : Int) = 0
 ·repeat (first | simp only [seval,evB,Zdi,ZbJ J,hm,h1] | simp (disch:=omega) only [dsB])
  have : a = 0:=Zan.1 (by omega)
  subst this
  refine Post.some ⟨true,?_⟩
  simp [Zai,Ztx]
 ·have hne : a≠0:=by rintro rfl; exact h1 (by rw [Zai]; rfl)
  by_cases h2 : -(n : Int) < -131072
  ·repeat (first | simp only [seval,evB,Zdi,ZbJ J,hm,h1,h2] | simp (disch:=omega) only [dsB])
   refine Post.some ⟨true,?_⟩
   have hlt : a < 2 ^ n:=Zaf.1 (by omega)
   rw [Nat.div_eq_of_lt hlt,Nat.mod_eq_of_lt hlt,Zai,Ztx,decide_eq_false hne]; rfl
  ·have h3 : -(n : Int) < 0:=by omega
   have h4 : 0 - -(n : Int) = n:=by omega
   obtain ⟨z',hz⟩:=ZnX J (z:=z) (a:=a) (n:=n) (by omega) hn
   have ht : decide (((tz a : Nat) : Int) < n) = !decide (a % 2 ^ n = 0):=by
    rw [← decide_not]; apply decide_eq_decide.2
    rw [← ne_eq,← ZCO hne]; omega
   repeat (first | simp only [seval,evB,Zdi,ZbJ J,hm,h1,h2,h3,h4,hz,ZsM J hm,ht] | simp (disch:=omega) only [dsB])
   exact Post.some ⟨z',rfl⟩
theorem Zct (J : Al G T g) {z : Bool} {a n : Nat} (hm : mayL (dl a) = true) (hn : a = 0∨n + blen a≤131072) (hn2 : n < 1099511627776) :
  ∃ z',run G T 50 [D z (dl a),.int .i64 (n : Int)] = some (.tup [D z' (dl (a * 2 ^ n)),.bool false,.int .i64 0]):=by
 apply exP
 rw [Zab G T J.A.nat_Shift]
 have hl:=(ZaO.1 hm).1
 have hbl:=ZdM hm
 by_cases h1 : ((dl a).length : Int) = 0
 ·repeat (first | simp only [seval,evB,Zdi,ZbJ J,hm,h1] | simp (disch:=omega) only [dsB])
  have : a = 0:=Zan.1 (by omega)
  subst this
  refine Post.some ⟨true,?_⟩
  simp [Zai,Ztx]
 ·have hne : a≠0:=by rintro rfl; exact h1 (by rw [Zai]; rfl)
  have h2 : ¬ (n : Int) < -131072:=by omega
  have h3 : ¬ (n : Int) < 0:=by omega
  have h4 : ¬ (131072 - ((blen a : Nat) : Int)) < n:=by omega
  obtain ⟨z',hz⟩:=Zum J (z:=z) (a:=a) (n:=n) (by omega) (by omega)
  repeat (first | simp only [seval,evB,Zdi,ZbJ J,hm,h1,h2,h3,h4,hz,ZfG J hm] | simp (disch:=omega) only [dsB])
  exact Post.some ⟨z',rfl⟩
theorem ZqL (J : Al G T g) {n : Nat} (hn : n < 18446744073709551616) : ∃ z',run G T 55 [.int .u64 (n : Int)] = some (D z' (dl n)):=by
 apply exP
 rw [Zab G T J.A.ZqL]
 have w1 : (n : Int) % 4294967296 = ((n % 4294967296 : Nat) : Int):=by omega
 have w2 : (n : Int) / 4294967296 % 4294967296 = ((n / 4294967296 : Nat) : Int):=by omega
 have hd : Dg [n % 4294967296,n / 4294967296]:=ZfO.2 ⟨by omega,ZfO.2 ⟨by omega,Dg.nil⟩⟩
 have hv : val [n % 4294967296,n / 4294967296] = n:=by simp only [val]; omega
 obtain ⟨z',hz⟩:=Zcg J (z:=false) hd (by simp)
 rw [hv] at hz
 have hf : fillA (repA 2 [AV.int .u32 0]) [(0,1,.int .u32 ((n % 4294967296 : Nat) : Int)),(1,1,.int .u32 ((n / 4294967296 : Nat) : Int))] = some (cells [n % 4294967296,n / 4294967296]):=rfl
 have hok : (cells [n % 4294967296,n / 4294967296]).all okCell = true:=Zwf _
 have hsn : snapG (Heap.mem ⟨Heap.nil.b ++ [⟨cells [n % 4294967296,n / 4294967296],false⟩],Heap.nil.f⟩) 3 Heap.nil.b.length 0 2 1 = some (D false [n % 4294967296,n / 4294967296]) :=
  Zch (ZbA FreH.nil [n % 4294967296,n / 4294967296]) (Nat.le_refl 2)
 repeat (first | simp only [seval,evB,Zpz,w1,w2,hf,hok,hsn,hz] | simp (disch:=omega) only [dsB])
 exact Post.some ⟨z',rfl⟩
theorem ZvW (h : Heap) {a : List Nat} {z : Bool} (hd : Dg a) (hs : a.length≤2) : ∀ (m i c : Nat),m + i = a.length→c = val (a.take i) →
  ∃ e,evL G T ZiI [(4,.int .u64 (c : Int)),(15,D z a),(16,.int .i64 ((a.length : Nat) : Int)),(17,.int .i64 (i : Int))] h = some (.exit 0,(4,.int .u64 ((val a : Nat) : Int)) :: e,h)
 | 0,i,c,hm,hc => by
  refine ⟨[(15,D z a),(16,.int .i64 ((a.length : Nat) : Int)),(17,.int .i64 (i : Int)),(18,.bool false)],?_⟩
  rw [Zae G T (c:=ZiI) rfl]
  have h1 : ¬ (i : Int) < a.length:=by omega
  rw [List.take_of_length_le (by omega)] at hc
  subst hc
  repeat (first | simp only [seval,evB,Zlt,h1] | simp (disch:=omega) only [dsB])
 | m + 1,i,c,hm,hc => by
  have ih:=ZvW h (z:=z) hd hs m (i + 1) (c + 4294967296 ^ i * dg a i) (by omega) (by rw [Zad,hc])
  obtain ⟨e,he⟩:=ih
  refine ⟨e,?_⟩
  rw [Zae G T (c:=ZiI) rfl]
  have h1 : (i : Int) < a.length:=by omega
  have hx:=hd.dg i
  have e7 : (i : Int) + 1 = ((i + 1 : Nat) : Int):=by omega
  have w1 : (dg a i : Int) % 18446744073709551616 = dg a i:=by omega
  have w2 : 32 * (i : Int) = ((32 * i : Nat) : Int):=by omega
  have w3 : min (32 * i) 64 = 32 * i:=by omega
  have hcl : c < 2 ^ (32 * i):=by rw [hc,← pow32]; exact Zrs hd i
  have hp : (2 : Nat) ^ (32 * i)≤2 ^ 32:=Nat.pow_le_pow_right (by decide) (by omega)
  have hm2 : dg a i * 2 ^ (32 * i)≤4294967295 * 2 ^ 32:=Nat.mul_le_mul (by omega) hp
  have w4 : (dg a i : Int) * 2 ^ (32 * i) % 18446744073709551616 = ((dg a i * 2 ^ (32 * i) : Nat) : Int):=by
   rw [Zbb,← Int.natCast_mul]; omega
  have w5 : orI .u64 (c : Int) ((dg a i * 2 ^ (32 * i) : Nat) : Int) = ((c + 4294967296 ^ i * dg a i : Nat) : Int):=by
   rw [or64 (by omega) (by omega),ZmX hcl,pow32,Nat.mul_comm]
  repeat (first | simp only [seval,evB,Zlt,h1,w1,w2,w3,w4,w5,e7] | simp (disch:=omega) only [dsB])
  rw [he]
theorem ZqK (J : Al G T g) {z : Bool} {a : Nat} (hs : a < 18446744073709551616) : run G T 51 [D z (dl a)] = some (.tup [.int .u64 (a : Int),.bool true]):=by
 rw [Zab G T J.A.ZqK]
 have hl : (dl a).length≤2:=Zcl.2 (by simpa using hs)
 have hm : mayL (dl a) = true:=ZaO.2 ⟨by omega,ZDL a⟩
 have h1 : ¬ (2 : Int) < (dl a).length:=by omega
 obtain ⟨e,he⟩:=ZvW (G:=G) (T:=T) .nil (z:=z) (Zao a) hl (dl a).length 0 0 (by omega) rfl
 rw [cast0,ZaE] at he
 repeat (first | simp only [seval,evB,ZnH,ZbJ J,hm,h1,he] | simp (disch:=omega) only [dsB])
end Go.Cv
namespace Go.Cv
variable {G : Nat→Option (List AV)} {T : Tbl} {g : Nat}
theorem ok_D (z : Bool) (l : List Nat) : okCell (D z l) = true:=by cases l <;> cases z <;> rfl
theorem ZxB (cs : List AV) : cellsA (.agg cs) = cs:=rfl
theorem ZAZ (z : Bool) (l : List Nat) : cellsA (D z l) = [D z l]:=by cases l <;> cases z <;> rfl
theorem ZxC (k : IntKind) (n : Int) : cellsA (.int k n) = [.int k n]:=rfl
theorem Zvg (b : Bool) : cellsA (.bool b) = [.bool b]:=rfl
def B3 (n : Bool) (m : AV) (e : Int) : Blk:=⟨[.bool n,m,.int .i64 e],false⟩
def A3 (n : Bool) (m : AV) (e : Int) : AV:=.agg [.bool n,m,.int .i64 e]
theorem box3 (F : CallF) (n : Bool) (z : Bool) (l : List Nat) (x : Int) (v : AV) (d : Option Nat) (os : List IOper) (e : Env) (h : Heap) :
  kB G F (boxOk 3 (A3 n (D z l) x)) v (cellsA (A3 n (D z l) x)) d os e h = evOps G F os (putE d v e) ⟨h.b ++ [B3 n (D z l) x],h.f⟩:=by
 have : boxOk 3 (A3 n (D z l) x) = true:=by
  have e1 : okCell (.bool n) = true:=rfl
  have e2 : okCell (.int .i64 x) = true:=rfl
  simp [boxOk,A3,ZxB,e1,e2,ok_D]
 rw [this,Zzi]; rfl
section
variable {h : Mem} {b : Nat} {n : Bool} {m : AV} {e : Int}
theorem ld0 (H : h b = some (B3 n m e)) : rdAt G h 1 (.ptr b 0) = some [.bool n]:=by simp [rdAt,rdBlk,H,B3]
theorem ld1 (H : h b = some (B3 n m e)) : rdAt G h 1 (.ptr b 1) = some [m]:=by simp [rdAt,rdBlk,H,B3]
theorem ld2 (H : h b = some (B3 n m e)) : rdAt G h 1 (.ptr b 2) = some [.int .i64 e]:=by simp [rdAt,rdBlk,H,B3]
theorem ld3 (H : h b = some (B3 n m e)) : rdAt G h 3 (.ptr b 0) = some [.bool n,m,.int .i64 e]:=by simp [rdAt,rdBlk,H,B3]
end
theorem mem0 (b : Blk) (bs : List Blk) (f : List Nat) : Heap.mem ⟨b :: bs,f⟩ 0 = some b:=rfl
theorem mem1 (a b : Blk) (bs : List Blk) (f : List Nat) : Heap.mem ⟨a :: b :: bs,f⟩ 1 = some b:=rfl
theorem mem2 (a b c : Blk) (bs : List Blk) (f : List Nat) : Heap.mem ⟨a :: b :: c :: bs,f⟩ 2 = some c:=rfl
theorem ZrD {n : Bool} {m : AV} {e : Int} {bs : List Blk} {f : List Nat} : rdAt G (Heap.mem ⟨B3 n m e :: bs,f⟩) 1 (.ptr 0 0) = some [.bool n]:=ld0 (mem0 ..)
theorem ZrE {n : Bool} {m : AV} {e : Int} {bs : List Blk} {f : List Nat} : rdAt G (Heap.mem ⟨B3 n m e :: bs,f⟩) 1 (.ptr 0 1) = some [m]:=ld1 (mem0 ..)
theorem ZrF {n : Bool} {m : AV} {e : Int} {bs : List Blk} {f : List Nat} : rdAt G (Heap.mem ⟨B3 n m e :: bs,f⟩) 1 (.ptr 0 2) = some [.int .i64 e]:=ld2 (mem0 ..)
theorem Zzn {n : Bool} {m : AV} {e : Int} {bs : List Blk} {f : List Nat} : rdAt G (Heap.mem ⟨B3 n m e :: bs,f⟩) 3 (.ptr 0 0) = some [.bool n,m,.int .i64 e]:=ld3 (mem0 ..)
def mayD (n : Bool) (l : List Nat) (e : Int) : Bool:=mayL l && (if l.length = 0 then (!n && decide (e = 0)) else (decide (dg l 0 % 2 = 1) && (decide (-16777216≤e) && decide (e≤16777216))))
theorem ZkY (J : Al G T g) (e : Int) : run G T 87 [.int .i64 e] = some (.bool (decide (-16777216≤e) && decide (e≤16777216))):=by
 rw [Zab G T J.C.ZkY]
 by_cases h3 : (-16777216 : Int)≤e
 ·repeat (first | simp only [seval,evB,ZeS,h3] | simp (disch:=omega) only [dsB])
  try simp
 ·repeat (first | simp only [seval,evB,ZeS,h3] | simp (disch:=omega) only [dsB])
  try simp
theorem Zda (J : Al G T g) (n z : Bool) {l : List Nat} (hd : Dg l) (e : Int) : run G T 48 [A3 n (D z l) e] = some (.bool (mayD n l e)):=by
 rw [Zab G T J.C.Zda]
 by_cases h0 : mayL l = true
 ·by_cases h1 : (l.length : Int) = 0
  ·have h1' : l.length = 0:=by omega
   cases n
   ·repeat (first | simp only [seval,evB,ZeC,box3,nilb,nilf,List.length_nil,Zio,Nat.zero_add,ZrD,ZrE,ZrF,ZbJ J,h0,h1] | simp (disch:=omega) only [dsB])
    simp [mayD,h0,h1']
   ·repeat (first | simp only [seval,evB,ZeC,box3,nilb,nilf,List.length_nil,Zio,Nat.zero_add,ZrD,ZrE,ZrF,ZbJ J,h0,h1] | simp (disch:=omega) only [dsB])
    simp [mayD,h0,h1']
  ·have h1' : ¬ l.length = 0:=by omega
   have hx:=hd.dg 0
   have w1 : andI .u32 (dg l 0 : Int) 1 = ((dg l 0 % 2 : Nat) : Int):=by
    rw [← Zsm]; exact and32 hx (b:=1) (by decide)
   by_cases h2 : ((dg l 0 % 2 : Nat) : Int) = 1
   ·have h2' : dg l 0 % 2 = 1:=by omega
    repeat (first | simp only [seval,evB,ZeC,box3,nilb,nilf,List.length_nil,Zio,Nat.zero_add,ZrD,ZrE,ZrF,ZbJ J,ZkY J,h0,h1,w1,h2] | simp (disch:=omega) only [dsB])
    simp only [mayD,h0,h1',h2',if_false,decide_true,Bool.true_and]
   ·have h2' : ¬ dg l 0 % 2 = 1:=by omega
    repeat (first | simp only [seval,evB,ZeC,box3,nilb,nilf,List.length_nil,Zio,Nat.zero_add,ZrD,ZrE,ZrF,ZbJ J,ZkY J,h0,h1,w1,h2] | simp (disch:=omega) only [dsB])
    simp only [mayD,h0,h1',h2',if_false,decide_false,Bool.false_and,Bool.and_false]
 ·repeat (first | simp only [seval,evB,ZeC,box3,nilb,nilf,List.length_nil,Zio,Nat.zero_add,ZrD,ZrE,ZrF,ZbJ J,h0] | simp (disch:=omega) only [dsB])
  simp [mayD,h0]
end Go.Cv
namespace Go.Cv
variable {G : Nat→Option (List AV)} {T : Tbl} {g : Nat}
structure Dy where
 n : Bool
 m : Nat
 e : Int
def mkD (n : Bool) (m : Nat) (e : Int) : Dy:=if m = 0 then ⟨false,0,0⟩ else ⟨n,m / 2 ^ tz m,e + tz m⟩
def DyA (z : Bool) (d : Dy) : AV:=A3 d.n (D z (dl d.m)) d.e
theorem allocB (F : CallF) (d : Option Nat) (os : List IOper) (e : Env) (h : Heap) : evOps G F (⟨d,.alloc [.bool false,.nil,.int .i64 0],none⟩ :: os) e h = evOps G F os (putE d (.ptr h.b.length 0) e) ⟨h.b ++ [B3 false .nil 0],h.f⟩:=Zxh G F d os e h _
theorem build0 (F : CallF) (d : Option Nat) (os : List IOper) (e : Env) (h : Heap) : evOps G F (⟨d,.build [.bool false,.nil,.int .i64 0] [],none⟩ :: os) e h = evOps G F os (putE d (A3 false .nil 0) e) h:=by
 rw [ZpR]; rfl
theorem fill3 (n z : Bool) (l : List Nat) (x : Int) : fillA [.bool false,.nil,.int .i64 0] [(0,1,.bool n),(1,1,D z l),(2,1,.int .i64 x)] = some [.bool n,D z l,.int .i64 x]:=by
 have e1 : okCell (.bool n) = true:=rfl
 have e2 : okCell (.int .i64 x) = true:=rfl
 simp [fillA,Zvg,ZAZ,ZxC,e1,e2,ok_D,setAt]
theorem Zmd (F : CallF) (d : Option Nat) (a b c : IOpd) (os : List IOper) (e : Env) (h : Heap) : evOps G F (⟨d,.build [.bool false,.nil,.int .i64 0] [(0,1,a),(1,1,b),(2,1,c)],none⟩ :: os) e h =
  kV G F ((fillA [.bool false,.nil,.int .i64 0] [(0,1,opd e a),(1,1,opd e b),(2,1,opd e c)]).map .agg) d os e h:=ZpR G F d os e h _ _
theorem store3 {h : Heap} {b : Nat} {n0 n z : Bool} {m0 : AV} {x0 x : Int} {l : List Nat} (hb : h.b[b]? = some (B3 n0 m0 x0)) (hf : h.f.contains b = false) :
  storeV h 3 (.ptr b 0) (A3 n (D z l) x) = some (.tup [],⟨h.b.set b (B3 n (D z l) x),h.f⟩):=by
 have e1 : okCell (.bool n) = true:=rfl
 have e2 : okCell (.int .i64 x) = true:=rfl
 have e : cellsA (A3 n (D z l) x) = [.bool n,D z l,.int .i64 x]:=rfl
 rw [storeV,e,if_pos ⟨rfl,by simp [e1,e2,ok_D]⟩,wrBlk,hb]
 simp only [B3]
 rw [if_pos ⟨trivial,hf,by simp⟩]
 simp [setAt]
theorem ZmP {n0 n z : Bool} {m0 : AV} {x0 x : Int} {l : List Nat} (bs : List Blk) : storeV ⟨B3 n0 m0 x0 :: bs,[]⟩ 3 (.ptr 0 0) (A3 n (D z l) x) = some (.tup [],⟨B3 n (D z l) x :: bs,[]⟩) :=
 store3 (h:=⟨B3 n0 m0 x0 :: bs,[]⟩) rfl rfl
theorem Zme {n0 n : Bool} {m0 : AV} {x0 x : Int} (bs : List Blk) : storeV ⟨B3 n0 m0 x0 :: bs,[]⟩ 3 (.ptr 0 0) (A3 n .nil x) = some (.tup [],⟨B3 n .nil x :: bs,[]⟩) :=
 ZmP (z:=true) (l:=[]) bs
theorem agg3 (n : Bool) (m : AV) (x : Int) : AV.agg [.bool n,m,.int .i64 x] = A3 n m x:=rfl
theorem Zpf (g : Nat→Nat→Nat→Nat→Option AV) (n z : Bool) (l : List Nat) (x : Int) : snapA g (A3 n (D z l) x) = some (A3 n (D z l) x):=by
 simp only [A3,ZAf,Znx,ZvJ,sn_D,Zrl,Zxe,Zga,Option.map_some]
theorem Zow (g : Nat→Nat→Nat→Nat→Option AV) (n : Bool) (x : Int) : snapA g (A3 n .nil x) = some (A3 n .nil x):=Zpf g n true [] x
theorem ZaQ (J : Al G T g) {n z : Bool} {a : Nat} {e : Int} (hs : (dl a).length < 17179869184) (he : -1099511627776 < e∧e < 1099511627776) :
  ∃ z',run G T 45 [.bool n,D z (dl a),.int .i64 e] = some (DyA z' (mkD n a e)):=by
 apply exP
 rw [Zab G T J.C.ZaQ]
 by_cases h0 : ((dl a).length : Int) = 0
 ·repeat (first | simp only [seval,evB,ZgH,nilb,nilf,List.length_nil,Zio,Nat.zero_add,ZrD,ZrE,ZrF,Zzn,allocB,build0,Zmd,ZmP,Zme,ZmM,ZmL,agg3,Zpf,Zow,fill3,h0] | simp (disch:=omega) only [dsB])
  have : a = 0:=Zan.1 (by omega)
  subst this
  refine Post.some ⟨true,?_⟩
  simp [mkD,DyA,Zai,Ztx]
 ·have hne : a≠0:=by rintro rfl; exact h0 (by rw [Zai]; rfl)
  have htz : tz a < 1099511627776:=by
   have h1:=(ZCO (n:=blen a) hne).2 (by rw [Nat.mod_eq_of_lt (Zbo a)]; exact hne)
   have:=Zaa a; omega
  obtain ⟨z',hz⟩:=ZhN J (z:=z) (a:=a) (n:=tz a) hs htz
  repeat (first | simp only [seval,evB,ZgH,nilb,nilf,List.length_nil,Zio,Nat.zero_add,ZrD,ZrE,ZrF,Zzn,allocB,build0,Zmd,ZmP,Zme,ZmM,ZmL,agg3,Zpf,Zow,fill3,h0,Zof J hs,hz] | simp (disch:=omega) only [dsB])
  refine Post.some ⟨z',?_⟩
  simp only [mkD,DyA,hne,if_false]
theorem Zhi {a : Nat} (hne : a≠0) : tz a < blen a:=(ZCO (n:=blen a) hne).2 (by rw [Nat.mod_eq_of_lt (Zbo a)]; exact hne)
theorem Zcm (J : Al G T g) {n z : Bool} {a : Nat} {e : Int} (hm : mayL (dl a) = true) (he : a = 0∨(-16777216≤e + tz a∧e + tz a≤16777216)) (he2 : -1099511627776 < e∧e < 1099511627776) :
  ∃ z',run G T 54 [.bool n,D z (dl a),.int .i64 e] = some (.tup [DyA z' (mkD n a e),.int .i64 0]):=by
 apply exP
 rw [Zab G T J.C.Zcm]
 have hl:=(ZaO.1 hm).1
 by_cases h0 : ((dl a).length : Int) = 0
 ·repeat (first | simp only [seval,evB,ZhU,nilb,nilf,List.length_nil,Zio,Nat.zero_add,ZrD,ZrE,ZrF,Zzn,allocB,build0,Zmd,ZmP,Zme,ZmM,ZmL,agg3,Zpf,Zow,fill3,ZbJ J,hm,h0] | simp (disch:=omega) only [dsB])
  have : a = 0:=Zan.1 (by omega)
  subst this
  refine Post.some ⟨true,?_⟩
  simp [mkD,DyA,Zai,Ztx]
 ·have hne : a≠0:=by rintro rfl; exact h0 (by rw [Zai]; rfl)
  have htz:=Zhi hne
  have hbl:=ZdM hm
  have h1 : ¬ (16777216 - ((tz a : Nat) : Int)) < e:=by omega
  have h2 : ¬ e < -16777216 - ((tz a : Nat) : Int):=by omega
  have hz : ∃ z' fl,run G T 50 [D z (dl a),.int .i64 (0 - ((tz a : Nat) : Int))] = some (.tup [D z' (dl (a / 2 ^ tz a)),.bool fl,.int .i64 0]):=by
   rcases Nat.eq_zero_or_pos (tz a) with ht | ht
   ·rw [ht]
    obtain ⟨z',hz⟩:=Zct (G:=G) J (z:=z) (a:=a) (n:=0) hm (by omega) (by omega)
    exact ⟨z',false,by simpa using hz⟩
   ·obtain ⟨z',hz⟩:=ZgA (G:=G) J (z:=z) (a:=a) (n:=tz a) hm ht (by omega)
    exact ⟨z',_,by rw [Int.zero_sub]; exact hz⟩
  obtain ⟨z',fl,hz⟩:=hz
  repeat (first | simp only [seval,evB,ZhU,nilb,nilf,List.length_nil,Zio,Nat.zero_add,ZrD,ZrE,ZrF,Zzn,allocB,build0,Zmd,ZmP,Zme,ZmM,ZmL,agg3,Zpf,Zow,fill3,ZbJ J,hm,h0,ZsM J hm,h1,h2,hz] | simp (disch:=omega) only [dsB])
  refine Post.some ⟨z',?_⟩
  simp only [mkD,DyA,hne,if_false]
end Go.Cv
namespace Go.Cv
variable {G : Nat→Option (List AV)} {T : Tbl} {g : Nat}
section
variable (a : Blk) {n : Bool} {m : AV} {e : Int} {bs : List Blk} {f : List Nat}
theorem ZJP : rdAt G (Heap.mem ⟨a :: B3 n m e :: bs,f⟩) 1 (.ptr 1 0) = some [.bool n]:=ld0 (mem1 ..)
theorem ZJQ : rdAt G (Heap.mem ⟨a :: B3 n m e :: bs,f⟩) 1 (.ptr 1 1) = some [m]:=ld1 (mem1 ..)
theorem ZJR : rdAt G (Heap.mem ⟨a :: B3 n m e :: bs,f⟩) 1 (.ptr 1 2) = some [.int .i64 e]:=ld2 (mem1 ..)
theorem ZJS : rdAt G (Heap.mem ⟨a :: B3 n m e :: bs,f⟩) 3 (.ptr 1 0) = some [.bool n,m,.int .i64 e]:=ld3 (mem1 ..)
theorem ZJT (b : Blk) : rdAt G (Heap.mem ⟨a :: b :: B3 n m e :: bs,f⟩) 3 (.ptr 2 0) = some [.bool n,m,.int .i64 e]:=ld3 (mem2 ..)
end
section
variable (a : Blk) {n0 n z : Bool} {m0 m : AV} {x0 x : Int} {l : List Nat} (bs : List Blk)
theorem Zxi : storeV ⟨a :: B3 n0 m0 x0 :: bs,[]⟩ 3 (.ptr 1 0) (A3 n (D z l) x) = some (.tup [],⟨a :: B3 n (D z l) x :: bs,[]⟩):=store3 (h:=⟨a :: B3 n0 m0 x0 :: bs,[]⟩) rfl rfl
theorem ZAn : storeV ⟨a :: B3 n0 m0 x0 :: bs,[]⟩ 3 (.ptr 1 0) (A3 n .nil x) = some (.tup [],⟨a :: B3 n .nil x :: bs,[]⟩):=Zxi (z:=true) (l:=[]) a bs
theorem ZCJ (b : Blk) : storeV ⟨a :: b :: B3 n0 m0 x0 :: bs,[]⟩ 3 (.ptr 2 0) (A3 n (D z l) x) = some (.tup [],⟨a :: b :: B3 n (D z l) x :: bs,[]⟩):=store3 (h:=⟨a :: b :: B3 n0 m0 x0 :: bs,[]⟩) rfl rfl
theorem ZIA : storeV ⟨B3 n0 m x :: bs,[]⟩ 1 (.ptr 0 0) (.bool n) = some (.tup [],⟨B3 n m x :: bs,[]⟩):=rfl
theorem ZIB : storeV ⟨B3 n m x0 :: bs,[]⟩ 1 (.ptr 0 2) (.int .i64 x) = some (.tup [],⟨B3 n m x :: bs,[]⟩):=rfl
end
def sgnD (d : Dy) : Int:=if d.m = 0 then 0 else if d.n then -1 else 1
def topD (d : Dy) : Int:=if d.m = 0 then 0 else d.e + blen d.m
def negD (d : Dy) : Dy:=if d.m = 0 then d else ⟨!d.n,d.m,d.e⟩
def absD (d : Dy) : Dy:=⟨false,d.m,d.e⟩
def shD (d : Dy) (k : Int) : Dy:=if d.m = 0 then d else ⟨d.n,d.m,d.e + k⟩
def dyB:=(ai (ai (ai (ai (ai @nilb @nilf) (ai @List.length_nil.{0} @List.length_cons.{0})) (ai (ai @List.cons_append.{0} @Zio) (ai @Nat.zero_add @ZrD))) (ai (ai (ai @ZrE @ZrF) (ai @Zzn @ZJP)) (ai (ai @ZJQ @ZJR) (ai @ZJS @ZJT)))) (ai (ai (ai (ai @allocB @build0) (ai @Zmd @ZmP)) (ai (ai @Zme @Zxi) (ai @ZAn @ZCJ))) (ai (ai (ai @ZIA @ZIB) (ai @ZmM @ZmL)) (ai (ai @agg3 @Zpf) (ai @Zow (ai @fill3 @box3))))))
theorem Zbi (J : Al G T g) {z : Bool} {d : Dy} : run G T 16 [DyA z d] = some (.int .i64 (sgnD d)):=by
 obtain ⟨n,m,e⟩:=d
 simp only [DyA]
 rw [Zab G T J.C.Zbi]
 by_cases h0 : ((dl m).length : Int) = 0
 ·have : m = 0:=Zan.1 (by omega)
  repeat (first | simp only [seval,evB,ZeG,dyB,h0] | simp (disch:=omega) only [dsB])
  simp [sgnD,this]
 ·have : m≠0:=by rintro rfl; exact h0 (by rw [Zai]; rfl)
  cases n
  ·repeat (first | simp only [seval,evB,ZeG,dyB,h0] | simp (disch:=omega) only [dsB])
   simp [sgnD,this]
  ·repeat (first | simp only [seval,evB,ZeG,dyB,h0] | simp (disch:=omega) only [dsB])
   simp [sgnD,this]
theorem ZfI (J : Al G T g) {z : Bool} {d : Dy} (hs : (dl d.m).length < 17179869184) (he : -1099511627776 < d.e∧d.e < 1099511627776) : run G T 32 [DyA z d] = some (.int .i64 (topD d)):=by
 obtain ⟨n,m,e⟩:=d
 simp only [DyA] at *
 rw [Zab G T J.C.ZfI]
 have hbl:=Zaa m
 by_cases h0 : ((dl m).length : Int) = 0
 ·have : m = 0:=Zan.1 (by omega)
  repeat (first | simp only [seval,evB,Zih,dyB,h0] | simp (disch:=omega) only [dsB])
  simp [topD,this]
 ·have : m≠0:=by rintro rfl; exact h0 (by rw [Zai]; rfl)
  repeat (first | simp only [seval,evB,Zih,dyB,h0,Zcp J hs] | simp (disch:=omega) only [dsB])
  simp [topD,this]
theorem Zoj (J : Al G T g) {z : Bool} {d : Dy} : run G T 102 [DyA z d] = some (DyA z (negD d)):=by
 obtain ⟨n,m,e⟩:=d
 simp only [DyA]
 rw [Zab G T J.C.Zoj]
 by_cases h0 : (0 : Int) < (dl m).length
 ·have : m≠0:=by rintro rfl; rw [Zai] at h0; exact absurd h0 (by decide)
  repeat (first | simp only [seval,evB,Zif,dyB,h0] | simp (disch:=omega) only [dsB])
  simp [negD,this]
 ·have : m = 0:=Zan.1 (by omega)
  repeat (first | simp only [seval,evB,Zif,dyB,h0] | simp (disch:=omega) only [dsB])
  simp [negD,this]
theorem ZqV (J : Al G T g) {z : Bool} {d : Dy} : run G T 37 [DyA z d] = some (DyA z (absD d)):=by
 obtain ⟨n,m,e⟩:=d
 simp only [DyA]
 rw [Zab G T J.C.ZqV]
 repeat (first | simp only [seval,evB,ZkD,dyB] | simp (disch:=omega) only [dsB])
 rfl
theorem Zez (J : Al G T g) {z : Bool} {d : Dy} {k : Int} (hk : -4398046511104 < k∧k < 4398046511104) (he : -4398046511104 < d.e∧d.e < 4398046511104) : run G T 65 [DyA z d,.int .i64 k] = some (DyA z (shD d k)):=by
 obtain ⟨n,m,e⟩:=d
 simp only [DyA] at *
 rw [Zab G T J.C.Zez]
 by_cases h0 : (0 : Int) < (dl m).length
 ·have : m≠0:=by rintro rfl; rw [Zai] at h0; exact absurd h0 (by decide)
  repeat (first | simp only [seval,evB,Zfh,dyB,h0] | simp (disch:=omega) only [dsB])
  simp [shD,this]
 ·have : m = 0:=Zan.1 (by omega)
  repeat (first | simp only [seval,evB,Zfh,dyB,h0] | simp (disch:=omega) only [dsB])
  simp [shD,this]
end Go.Cv
namespace Go.Cv
variable {G : Nat→Option (List AV)} {T : Tbl} {g : Nat}
theorem ZoT (J : Al G T g) {n n' z z' : Bool} {l l' : List Nat} {e e' : Int} (hs : l.length < 1099511627776) :
  run G T 14 [A3 n (D z l) e,A3 n' (D z' l') e'] = some (.bool (decide (n = n'∧e = e'∧l = l'))):=by
 rw [Zab G T J.C.ZoT]
 have eqb_bb : ∀ a b : Bool,eqbA false (.bool a) (.bool b) = some (.bool (decide (a = b))):=by intro a b; cases a <;> cases b <;> rfl
 by_cases h0 : n = n'
 ·by_cases h1 : e = e'
  ·repeat (first | simp only [seval,evB,ZeF,dyB,eqb_bb,h0,h1,Zkb J hs] | simp (disch:=omega) only [dsB])
   simp [h0,h1]
  ·repeat (first | simp only [seval,evB,ZeF,dyB,eqb_bb,h0,h1,Zkb J hs] | simp (disch:=omega) only [dsB])
   simp [h1]
 ·repeat (first | simp only [seval,evB,ZeF,dyB,eqb_bb,h0,Zkb J hs] | simp (disch:=omega) only [dsB])
  simp [h0]
def floorD (d : Dy) : Dy:=if 0≤d.e then d else mkD d.n (d.m / 2 ^ (-d.e).toNat + if d.n && !decide (d.m % 2 ^ (-d.e).toNat = 0) then 1 else 0) 0
theorem Zpp : dl 1 = [1]:=by rw [ZnQ (by decide)]; simp [Zai]
def oneB : Blk:=⟨[.int .u32 1],false⟩
theorem Zzz : (⟨[.int .u32 1],false⟩ : Blk) = oneB:=rfl
theorem ZAi (a b : Blk) (bs : List Blk) (f : List Nat) : snapG (Heap.mem ⟨a :: b :: oneB :: bs,f⟩) 3 2 0 1 1 = some (D false (dl 1)):=by
 rw [Zpp]; exact Zov (d:=2) (l:=[1]) rfl rfl
theorem ZBv (a b : Blk) (bs : List Blk) (f : List Nat) (r : AV) : (frz (Heap.mem ⟨a :: b :: oneB :: bs,f⟩) r [.own 2 0 1 1]).contains 1 = false:=by
 have e : reachL (reachG (Heap.mem ⟨a :: b :: oneB :: bs,f⟩) 3) [.own 2 0 1 1] = [2]:=rfl
 rw [frz,e]; cases refA r <;> rfl
theorem ZAo (a : Blk) {n0 n z : Bool} {m0 : AV} {x0 x : Int} {l : List Nat} (bs : List Blk) {f : List Nat} (hf : f.contains 1 = false) :
  storeV ⟨a :: B3 n0 m0 x0 :: bs,f⟩ 3 (.ptr 1 0) (A3 n (D z l) x) = some (.tup [],⟨a :: B3 n (D z l) x :: bs,f⟩):=store3 (h:=⟨a :: B3 n0 m0 x0 :: bs,f⟩) rfl hf
theorem Zld (J : Al G T g) {z : Bool} {d : Dy} (hs : (dl d.m).length < 17179869183) (he : -1099511627776 < d.e∧d.e < 1099511627776) :
  ∃ z',run G T 66 [DyA z d] = some (DyA z' (floorD d)):=by
 obtain ⟨n,m,e⟩:=d
 simp only [DyA] at *
 apply exP
 rw [Zab G T J.C.Zld]
 by_cases h0 : (0 : Int)≤e
 ·repeat (first | simp only [seval,evB,Zcz,dyB,h0] | simp (disch:=omega) only [dsB])
  exact Post.some ⟨z,by simp [floorD,h0]⟩
 ·obtain ⟨k,hk⟩ : ∃ k : Nat,-e = k:=⟨(-e).toNat,by omega⟩
  have hk2 : (-e).toNat = k:=by omega
  have hk3 : 0 - e = k:=by omega
  obtain ⟨z',hz⟩:=ZhN J (z:=z) (a:=m) (n:=k) (by omega) (by omega)
  have hb1:=Zaa m
  have hb2:=Zaa (m / 2 ^ k)
  have hb3:=Zaj m k
  have hb4:=Zaa (m / 2 ^ k + 1)
  have hb5 : blen (m / 2 ^ k + 1)≤blen (m / 2 ^ k) + 1:=by
   rw [Zaf,Nat.pow_succ]
   have:=Zbo (m / 2 ^ k); have:=Nat.two_pow_pos (blen (m / 2 ^ k)); omega
  have hfl : ∀ n,floorD ⟨n,m,e⟩ = mkD n (m / 2 ^ k + if n && !decide (m % 2 ^ k = 0) then 1 else 0) 0:=fun n => by
   simp only [floorD,if_neg h0,hk2]
  rw [hfl]
  cases n
  ·obtain ⟨z2,hz2⟩:=ZaQ J (n:=false) (z:=z') (a:=m / 2 ^ k) (e:=0) (by omega) (by omega)
   repeat (first | simp only [seval,evB,Zcz,dyB,h0,hk3,hz,hz2,DyA] | simp (disch:=omega) only [dsB])
   exact Post.some ⟨z2,rfl⟩
  ·by_cases h1 : m % 2 ^ k = 0
   ·obtain ⟨z2,hz2⟩:=ZaQ J (n:=true) (z:=z') (a:=m / 2 ^ k) (e:=0) (by omega) (by omega)
    repeat (first | simp only [seval,evB,Zcz,dyB,h0,hk3,hz,hz2,DyA,h1] | simp (disch:=omega) only [dsB])
    refine Post.some ⟨z2,?_⟩
    simp
   ·obtain ⟨z3,hz3⟩:=ZgT J (z:=z') (y:=false) (a:=m / 2 ^ k) (b:=1) (by omega) (by rw [Zpp]; decide)
    obtain ⟨z2,hz2⟩:=ZaQ J (n:=true) (z:=z3) (a:=m / 2 ^ k + 1) (e:=0) (by omega) (by omega)
    have hst:=@ZAo (B3 true (D z (dl m)) e) false (mkD true (m / 2 ^ k + 1) 0).n z2 .nil 0 (mkD true (m / 2 ^ k + 1) 0).e (dl (mkD true (m / 2 ^ k + 1) 0).m) [oneB] _ (ZBv (B3 true (D z (dl m)) e) (B3 false .nil 0) [] [] (D z3 (dl (m / 2 ^ k + 1))))
    repeat (first | simp only [seval,evB,Zcz,dyB,h0,hk3,hz,hz2,DyA,h1,Zzz,ZAi,hz3,hst] | simp (disch:=omega) only [dsB])
    exact Post.some ⟨z2,rfl⟩
def twoD (n : Int) : Dy:=⟨false,1,n⟩
def addD (a b : Dy) : Dy :=
 if a.m = 0 then b else if b.m = 0 then a else
 if a.n = b.n then mkD a.n (a.m * 2 ^ (a.e - min a.e b.e).toNat + b.m * 2 ^ (b.e - min a.e b.e).toNat) (min a.e b.e)
 else if b.m * 2 ^ (b.e - min a.e b.e).toNat≤a.m * 2 ^ (a.e - min a.e b.e).toNat then mkD a.n (a.m * 2 ^ (a.e - min a.e b.e).toNat - b.m * 2 ^ (b.e - min a.e b.e).toNat) (min a.e b.e)
 else mkD b.n (b.m * 2 ^ (b.e - min a.e b.e).toNat - a.m * 2 ^ (a.e - min a.e b.e).toNat) (min a.e b.e)
def subD (a b : Dy) : Dy:=addD a (negD b)
def cmpD (a b : Dy) : Int :=
 if sgnD a≠sgnD b then (if sgnD a < sgnD b then -1 else 1)
 else if sgnD a = 0 then 0
 else if topD a≠topD b then (if decide (topD a < topD b) = decide (0 < sgnD a) then -1 else 1)
 else sgnD (subD a b)
structure Bd (d : Dy) (K : Nat) : Prop where
 bl : blen d.m≤K
 lo : -(K : Int)≤d.e
 hi : d.e≤K
theorem ZfP (a k : Nat) : blen (a * 2 ^ k)≤blen a + k:=by
 by_cases h : a = 0
 ·subst h; rw [Nat.zero_mul,Zag]; omega
 ·rw [Zav h]; exact Nat.le_refl _
theorem Zne (a b : Nat) : blen (a + b)≤max (blen a) (blen b) + 1:=by
 rw [Zaf,Nat.pow_succ]
 have h1:=Zbo a
 have h2:=Zbo b
 have h3 : 2 ^ blen a≤2 ^ max (blen a) (blen b):=Nat.pow_le_pow_right (by decide) (by omega)
 have h4 : 2 ^ blen b≤2 ^ max (blen a) (blen b):=Nat.pow_le_pow_right (by decide) (by omega)
 omega
theorem Zok (J : Al G T g) {n : Int} : run G T 68 [.int .i64 n] = some (DyA false (twoD n)):=by
 rw [Zab G T J.C.Zok]
 have hb : ∀ (F : CallF) (d : Option Nat) (a c : IOpd) (os : List IOper) (e : Env) (h : Heap),evOps G F (⟨d,.build [.bool false,.nil,.int .i64 0] [(1,1,a),(2,1,c)],none⟩ :: os) e h =
  kV G F ((fillA [.bool false,.nil,.int .i64 0] [(1,1,opd e a),(2,1,opd e c)]).map .agg) d os e h:=fun F d a c os e h => ZpR G F d os e h _ _
 have hf : fillA [.bool false,.nil,.int .i64 0] [(1,1,.own 1 0 1 1),(2,1,.int .i64 n)] = some [.bool false,.own 1 0 1 1,.int .i64 n]:=rfl
 have hs : storeV ⟨[B3 false .nil 0,oneB],[]⟩ 3 (.ptr 0 0) (A3 false (.own 1 0 1 1) n) = some (.tup [],⟨[B3 false (.own 1 0 1 1) n,oneB],[]⟩):=rfl
 have hsn : snapA (snapG (Heap.mem ⟨[B3 false (.own 1 0 1 1) n,oneB],[]⟩) 3) (A3 false (.own 1 0 1 1) n) = some (DyA false (twoD n)):=by
  have e1 : snapG (Heap.mem ⟨[B3 false (.own 1 0 1 1) n,oneB],[]⟩) 3 1 0 1 1 = some (D false [1]):=Zov (d:=2) (l:=[1]) rfl rfl
  simp only [A3,ZAf,Znx,ZvJ,ZuK,Zrl,Zxe,e1,Zga,Option.map_some,DyA,twoD,Zpp]
 repeat (first | simp only [seval,evB,ZkH,dyB,hb,hf,Zzz,hs,hsn] | simp (disch:=omega) only [dsB])
theorem Zef (J : Al G T g) {z y : Bool} {a b : Dy} (ha : Bd a 34359738368) (hb : Bd b 34359738368) :
  ∃ z',run G T 67 [DyA z a,DyA y b] = some (DyA z' (addD a b)):=by
 obtain ⟨n,m,e⟩:=a
 obtain ⟨n',m',e'⟩:=b
 obtain ⟨ha1,ha2,ha3⟩:=ha
 obtain ⟨hb1,hb2,hb3⟩:=hb
 simp only [DyA] at *
 apply exP
 rw [Zab G T J.C.Zef]
 have hl:=Zaa m
 have hl':=Zaa m'
 by_cases h0 : ((dl m).length : Int) = 0
 ·have hm : m = 0:=Zan.1 (by omega)
  repeat (first | simp only [seval,evB,ZaV,dyB,h0] | simp (disch:=omega) only [dsB])
  refine Post.some ⟨y,?_⟩
  simp [addD,hm]
 ·have hm : m≠0:=by rintro rfl; exact h0 (by rw [Zai]; rfl)
  by_cases h1 : ((dl m').length : Int) = 0
  ·have hm' : m' = 0:=Zan.1 (by omega)
   repeat (first | simp only [seval,evB,ZaV,dyB,h0,h1] | simp (disch:=omega) only [dsB])
   refine Post.some ⟨z,?_⟩
   simp [addD,hm,hm']
  ·have hm' : m'≠0:=by rintro rfl; exact h1 (by rw [Zai]; rfl)
   obtain ⟨p,hp⟩ : ∃ p : Nat,(p : Int) = e - min e e':=⟨(e - min e e').toNat,by omega⟩
   obtain ⟨q,hq⟩ : ∃ q : Nat,(q : Int) = e' - min e e':=⟨(e' - min e e').toNat,by omega⟩
   have hp2 : (e - min e e').toNat = p:=by omega
   have hq2 : (e' - min e e').toNat = q:=by omega
   obtain ⟨z1,hz1⟩:=ZfH J (z:=z) (a:=m) (n:=p) (by omega) (by omega)
   obtain ⟨z2,hz2⟩:=ZfH J (z:=y) (a:=m') (n:=q) (by omega) (by omega)
   have hx:=ZfP m p
   have hy:=ZfP m' q
   have hf : addD ⟨n,m,e⟩ ⟨n',m',e'⟩ = if n = n' then mkD n (m * 2 ^ p + m' * 2 ^ q) (min e e') else if m' * 2 ^ q≤m * 2 ^ p then mkD n (m * 2 ^ p - m' * 2 ^ q) (min e e') else mkD n' (m' * 2 ^ q - m * 2 ^ p) (min e e'):=by
    simp only [addD,hm,hm',if_false,hp2,hq2]
   rw [hf]
   generalize m * 2 ^ p = X at *
   generalize m' * 2 ^ q = Y at *
   have hlx:=Zaa X
   have hly:=Zaa Y
   have eqb_bb : ∀ a b : Bool,eqbA false (.bool a) (.bool b) = some (.bool (decide (a = b))):=by intro a b; cases a <;> cases b <;> rfl
   have hcmp:=Zka J (z:=z1) (y:=z2) (a:=X) (b:=Y) (by omega) (by omega)
   obtain ⟨z3,hz3⟩:=ZgT J (z:=z1) (y:=z2) (a:=X) (b:=Y) (by omega) (by omega)
   have hfin : ∀ (M : Int),M = min e e'→Post (kE G ZaV.res (evL G T ZaV.body (numE 0 [A3 n (D z (dl m)) e,A3 n' (D y (dl m')) e']) .nil)) fun r => ∃ z,r = DyA z (if n = n' then mkD n (X + Y) M else if Y≤X then mkD n (X - Y) M else mkD n' (Y - X) M):=by
    intro M hM
    have hs1:=Zne X Y
    have hs1l:=Zaa (X + Y)
    have hs2:=Zap (Nat.sub_le X Y)
    have hs2l:=Zaa (X - Y)
    have hs3:=Zap (Nat.sub_le Y X)
    have hs3l:=Zaa (Y - X)
    by_cases h4 : n = n'
    ·obtain ⟨z4,hz4⟩:=ZaQ J (n:=n') (z:=z3) (a:=X + Y) (e:=M) (by omega) (by omega)
     subst h4
     rw [if_pos rfl]
     by_cases h2 : e' < e
     ·have hM2 : M = e':=by omega
      have hpe : e - e' = p:=by omega
      have hqe : e' - e' = q:=by omega
      rw [hM2] at hz4 ⊢
      repeat (first | simp only [seval,evB,ZaV,dyB,h0,h1,h2,hpe,hqe,hz1,hz2,eqb_bb,hz3,hz4,DyA] | simp (disch:=omega) only [dsB])
      exact Post.some ⟨z4,rfl⟩
     ·have hM2 : M = e:=by omega
      have hpe : e - e = p:=by omega
      have hqe : e' - e = q:=by omega
      rw [hM2] at hz4 ⊢
      repeat (first | simp only [seval,evB,ZaV,dyB,h0,h1,h2,hpe,hqe,hz1,hz2,eqb_bb,hz3,hz4,DyA] | simp (disch:=omega) only [dsB])
      exact Post.some ⟨z4,rfl⟩
    ·rw [if_neg h4]
     by_cases h5 : Y≤X
     ·have hc : (0 : Int)≤cmpN X Y:=by
       unfold cmpN
       rw [if_neg (by omega)]
       split <;> decide
      obtain ⟨z5,hz5⟩:=Zit J (z:=z1) (y:=z2) (a:=X) (b:=Y) (by omega) h5
      obtain ⟨z4,hz4⟩:=ZaQ J (n:=n) (z:=z5) (a:=X - Y) (e:=M) (by omega) (by omega)
      rw [if_pos h5]
      by_cases h2 : e' < e
      ·have hM2 : M = e':=by omega
       have hpe : e - e' = p:=by omega
       have hqe : e' - e' = q:=by omega
       rw [hM2] at hz4 ⊢
       repeat (first | simp only [seval,evB,ZaV,dyB,h0,h1,h2,hpe,hqe,hz1,hz2,eqb_bb,h4,hcmp,hc,hz5,hz4,DyA] | simp (disch:=omega) only [dsB])
       exact Post.some ⟨z4,rfl⟩
      ·have hM2 : M = e:=by omega
       have hpe : e - e = p:=by omega
       have hqe : e' - e = q:=by omega
       rw [hM2] at hz4 ⊢
       repeat (first | simp only [seval,evB,ZaV,dyB,h0,h1,h2,hpe,hqe,hz1,hz2,eqb_bb,h4,hcmp,hc,hz5,hz4,DyA] | simp (disch:=omega) only [dsB])
       exact Post.some ⟨z4,rfl⟩
     ·have hc : ¬ (0 : Int)≤cmpN X Y:=by rw [Zqh (by omega)]; decide
      obtain ⟨z5,hz5⟩:=Zit J (z:=z2) (y:=z1) (a:=Y) (b:=X) (by omega) (by omega)
      obtain ⟨z4,hz4⟩:=ZaQ J (n:=n') (z:=z5) (a:=Y - X) (e:=M) (by omega) (by omega)
      rw [if_neg h5]
      by_cases h2 : e' < e
      ·have hM2 : M = e':=by omega
       have hpe : e - e' = p:=by omega
       have hqe : e' - e' = q:=by omega
       rw [hM2] at hz4 ⊢
       repeat (first | simp only [seval,evB,ZaV,dyB,h0,h1,h2,hpe,hqe,hz1,hz2,eqb_bb,h4,hcmp,hc,hz5,hz4,DyA] | simp (disch:=omega) only [dsB])
       exact Post.some ⟨z4,rfl⟩
      ·have hM2 : M = e:=by omega
       have hpe : e - e = p:=by omega
       have hqe : e' - e = q:=by omega
       rw [hM2] at hz4 ⊢
       repeat (first | simp only [seval,evB,ZaV,dyB,h0,h1,h2,hpe,hqe,hz1,hz2,eqb_bb,h4,hcmp,hc,hz5,hz4,DyA] | simp (disch:=omega) only [dsB])
       exact Post.some ⟨z4,rfl⟩
   exact hfin _ rfl
end Go.Cv
