/-
 A part of the proof of the statements of this seat (texts that the law's own text leans on): no condition.
-/
import Derived.Test.YtnomgajekgfgaaaGreatDoorM10
import Derived.Test.YtnomgajekgfgaaaGreatDoorM12
import Derived.Test.YtnomgajekgfgaaaGreatDoorM11
import Derived.Test.YtnomgajekgfgaaaGreatDoorM9
import Derived.Test.YtnomgajekgfgaaaGreatDoorM6
set_option linter.unusedVariables false
set_option linter.unusedSimpArgs false
namespace Go.Cv
def sW (F : Fm) (md : Int) (neg : Bool) (Q : Nat) (more : Bool) (E : Int) : Nat × Nat :=
 wordOf F md neg (rdN md neg Q more (F.eOf (E + blen Q) - E).toNat).1 (rdN md neg Q more (F.eOf (E + blen Q) - E).toNat).2 (F.eOf (E + blen Q)) (E + blen Q) (rdN md neg Q more (blen Q - F.fr - 1)).1
theorem ZsV (F : Fm) (md : Int) (neg : Bool) {w : Nat} (more : Bool) (top : Int) (hw : blen w = 64) : partW F md neg w more top = sW F md neg w more (top - 64):=by
 unfold partW sW
 have h1 : top - 64 + (blen w : Int) = top:=by omega
 rw [h1,show F.eOf top - top + 64 = F.eOf top - (top - 64) by omega,show blen w - F.fr - 1 = 63 - F.fr by omega]
theorem ZgB (F : Fm) (md : Int) (neg : Bool) {Q j : Nat} (more : Bool) (E : Int) (h : F.fr + 2 + j≤blen Q) :
  sW F md neg (Q / 2 ^ j) (more || decide (Q % 2 ^ j≠0)) (E + j) = sW F md neg Q more E:=by
 unfold sW
 have hb : (blen (Q / 2 ^ j) : Int) = blen Q - j:=by rw [Zaj]; omega
 have hb' : blen (Q / 2 ^ j) = blen Q - j:=by omega
 have e1 : E + j + (blen (Q / 2 ^ j) : Int) = E + blen Q:=by omega
 have hE : E + (blen Q : Int) - F.fr - 1≤F.eOf (E + blen Q):=by unfold Fm.eOf; omega
 have r1:=ZqT md neg Q more j (F.eOf (E + blen Q) - (E + j)).toNat (by omega)
 have r2:=ZqT md neg Q more j (blen Q - j - F.fr - 1) (by omega)
 rw [show j + (F.eOf (E + blen Q) - (E + j)).toNat = (F.eOf (E + blen Q) - E).toNat by omega] at r1
 rw [show j + (blen Q - j - F.fr - 1) = blen Q - F.fr - 1 by omega] at r2
 rw [e1,hb',r1,r2]
theorem ZtX {M : Nat} (h : M≠0) (t : Nat) : headN (M * 2 ^ t) = headN M∧behindN (M * 2 ^ t) = behindN M:=by
 unfold headN behindN
 rw [Zav h]
 by_cases h1 : blen M≤64
 ·by_cases h2 : blen M + t≤64
  ·rw [if_pos h1,if_pos h2,if_pos h1,if_pos h2,Nat.mul_assoc,← Nat.pow_add,show t + (64 - (blen M + t)) = 64 - blen M by omega]
   exact ⟨rfl,rfl⟩
  ·rw [if_pos h1,if_neg h2,if_pos h1,if_neg h2]
   rw [ZkX (by omega),Znl (by omega),show t - (blen M + t - 64) = 64 - blen M by omega]
   exact ⟨rfl,rfl⟩
 ·rw [if_neg h1,if_neg (by omega),if_neg h1,if_neg (by omega)]
  rw [Zjc (by omega),ZlJ (by omega),show blen M + t - 64 - t = blen M - 64 by omega]
  have hp:=Nat.two_pow_pos t
  refine ⟨rfl,decide_eq_decide.2 ?_⟩
  constructor
  ·intro h3 h4; exact h3 (by rw [h4,Nat.zero_mul])
  ·intro h3 h4
   rcases Nat.mul_eq_zero.1 h4 with h5 | h5
   ·exact h3 h5
   ·omega
theorem ZFH (F : Fm) (md : Int) (neg : Bool) {M : Nat} (E : Int) (h : F.fr + 2≤blen M) : sW F md neg (headN M) (behindN M) (E + blen M - 64) = sW F md neg M false E:=by
 have hF:=ZbH F
 unfold headN behindN
 by_cases h1 : blen M≤64
 ·rw [if_pos h1,if_pos h1]
  have hm : M≠0:=by rintro rfl; rw [Zag] at h; omega
  have:=ZgB F md neg (Q:=M * 2 ^ (64 - blen M)) (j:=64 - blen M) false (E + blen M - 64) (by rw [Zav hm]; omega)
  rw [Nat.mul_div_cancel _ (Nat.two_pow_pos _),Nat.mul_mod_left,show E + (blen M : Int) - 64 + ((64 - blen M : Nat) : Int) = E by omega] at this
  rw [← this]; rfl
 ·rw [if_neg h1,if_neg h1]
  have:=ZgB F md neg (Q:=M) (j:=blen M - 64) false E (by omega)
  rw [← this,Bool.false_or,show E + ((blen M - 64 : Nat) : Int) = E + blen M - 64 by omega]
theorem Zte (F : Fm) (md : Int) (neg : Bool) {M : Nat} (E : Int) (h : F.fr + 2≤blen M) : rndW F md (mkD neg M E) = sW F md neg M false E:=by
 have hm : M≠0:=by rintro rfl; rw [Zag] at h; omega
 have t1:=(ZfL hm).1
 have hb:=Zaj M (tz M)
 have hz:=Zhi hm
 have hm' : M / 2 ^ tz M≠0:=by intro hc; rw [hc,Zag] at hb; omega
 have h1:=ZwN F md (d:=mkD neg M E) (by rw [Zal hm]; exact hm')
 rw [← h1,Zal hm]
 simp only
 obtain ⟨e1,e2⟩:=ZtX hm' (tz M)
 rw [← t1] at e1 e2
 rw [← e1,← e2,ZsV _ _ _ _ _ (Zmz hm),show E + (tz M : Int) + (blen (M / 2 ^ tz M) : Int) - 64 = E + blen M - 64 by omega,ZFH F md neg E h]
theorem ZuE (F : Fm) (md : Int) (neg : Bool) {M j : Nat} (E : Int) (hj : 0 < j) (h : F.fr + 2≤blen M) : sW F md neg (M * 2 ^ j + 1) false (E - j) = sW F md neg M true E:=by
 have hm : M≠0:=by rintro rfl; rw [Zag] at h; omega
 have hp : 1 < 2 ^ j:=Nat.one_lt_two_pow (by omega)
 have d1 : (M * 2 ^ j + 1) / 2 ^ j = M:=by
  rw [Nat.mul_comm,Nat.mul_add_div (by omega),Nat.div_eq_of_lt hp,Nat.add_zero]
 have d2 : (M * 2 ^ j + 1) % 2 ^ j = 1:=by
  rw [Nat.mul_comm,Nat.mul_add_mod,Nat.mod_eq_of_lt hp]
 have hb:=Zaj (M * 2 ^ j + 1) j
 rw [d1] at hb
 have:=ZgB F md neg (Q:=M * 2 ^ j + 1) (j:=j) false (E - j) (by omega)
 rw [d1,d2,show E - (j : Int) + j = E by omega] at this
 rw [← this]; rfl
theorem ZIj (F : Fm) (md : Int) (neg : Bool) {a b N j : Nat} (E : Int) (hb : b≠0) (h : F.fr + 2≤blen (a * 2 ^ N / b)) :
  sW F md neg (a * 2 ^ (N + j) / b) (!decide (a * 2 ^ (N + j) % b = 0)) (E - j) = sW F md neg (a * 2 ^ N / b) (!decide (a * 2 ^ N % b = 0)) E:=by
 have hp:=Nat.two_pow_pos j
 have e0 : a * 2 ^ (N + j) = a * 2 ^ N * 2 ^ j:=by rw [Nat.pow_add,Nat.mul_assoc]
 rw [e0]
 generalize a * 2 ^ N = A at *
 have e1 : A * 2 ^ j / b / 2 ^ j = A / b:=by rw [Nat.div_div_eq_div_mul,Nat.mul_div_mul_right _ _ hp]
 have hbl:=Zaj (A * 2 ^ j / b) j
 rw [e1] at hbl
 have h2:=ZgB F md neg (Q:=A * 2 ^ j / b) (j:=j) (!decide (A * 2 ^ j % b = 0)) (E - j) (by omega)
 rw [e1,show E - (j : Int) + j = E by omega] at h2
 rw [← h2]
 congr 1
 have e3 : A * 2 ^ j % (b * 2 ^ j) = A % b * 2 ^ j:=Nat.mul_mod_mul_right ..
 rw [Nat.mod_mul] at e3
 have key : A % b = 0↔(A * 2 ^ j % b = 0∧A * 2 ^ j / b % 2 ^ j = 0):=by
  constructor
  ·intro h3
   rw [h3,Nat.zero_mul] at e3
   have h4 : A * 2 ^ j % b = 0:=by omega
   rw [h4,Nat.zero_add] at e3
   refine ⟨h4,?_⟩
   rcases Nat.mul_eq_zero.1 e3 with h5 | h5
   ·exact absurd h5 hb
   ·exact h5
  ·rintro ⟨h3,h4⟩
   rw [h3,h4,Nat.mul_zero,Nat.add_zero] at e3
   rcases Nat.mul_eq_zero.1 e3.symm with h5 | h5
   ·exact h5
   ·omega
 rw [Bool.eq_iff_iff]
 simp only [Bool.or_eq_true,Bool.not_eq_true',decide_eq_true_eq,decide_eq_false_iff_not,ne_eq,key]
 by_cases h5 : A * 2 ^ j % b = 0 <;> by_cases h6 : A * 2 ^ j / b % 2 ^ j = 0 <;> simp [h5,h6]
theorem Zgz (t j : Nat) : t * 2 ^ j * (t * 2 ^ j) = t * t * 2 ^ (2 * j):=by
 rw [Nat.mul_mul_mul_comm,← Nat.pow_add,show j + j = 2 * j by omega]
theorem ZzT {X r t j : Nat} (h1 : r * r≤X) (h2 : X < (r + 1) * (r + 1)) (h3 : t * t≤X / 2 ^ (2 * j)) (h4 : X / 2 ^ (2 * j) < (t + 1) * (t + 1)) :
  t = r / 2 ^ j∧((t * t = X / 2 ^ (2 * j)∧X % 2 ^ (2 * j) = 0)↔(r * r = X∧r % 2 ^ j = 0)):=by
 have hp:=Nat.two_pow_pos j
 have hq:=Nat.two_pow_pos (2 * j)
 have g1 : t * 2 ^ j * (t * 2 ^ j)≤X:=by
  rw [Zgz]
  exact Nat.le_trans (Nat.mul_le_mul_right _ h3) (Nat.div_mul_le_self ..)
 have g2 : t * 2 ^ j≤r:=by
  rcases Nat.lt_or_ge r (t * 2 ^ j) with h | h
  ·have:=Nat.mul_le_mul (show r + 1≤t * 2 ^ j from h) (show r + 1≤t * 2 ^ j from h); omega
  ·exact h
 have g3 : r / 2 ^ j * (r / 2 ^ j)≤X / 2 ^ (2 * j):=by
  rw [Nat.le_div_iff_mul_le hq,← Zgz]
  exact Nat.le_trans (Nat.mul_le_mul (Nat.div_mul_le_self ..) (Nat.div_mul_le_self ..)) h1
 have g4 : r / 2 ^ j≤t:=by
  rcases Nat.lt_or_ge t (r / 2 ^ j) with h | h
  ·have:=Nat.mul_le_mul (show t + 1≤r / 2 ^ j from h) (show t + 1≤r / 2 ^ j from h); omega
  ·exact h
 have g5 : t = r / 2 ^ j:=Nat.le_antisymm ((Nat.le_div_iff_mul_le hp).2 g2) g4
 refine ⟨g5,?_⟩
 have m1:=Nat.div_add_mod X (2 ^ (2 * j))
 have m2:=Nat.div_add_mod r (2 ^ j)
 constructor
 ·rintro ⟨a1,a2⟩
  have hX : t * 2 ^ j * (t * 2 ^ j) = X:=by
   rw [Zgz,a1,Nat.mul_comm]; omega
  have hr : t * 2 ^ j = r:=by
   refine Zrg (a:=X) (Nat.le_of_eq hX) ?_ h1 h2
   rw [← hX]; exact Nat.mul_lt_mul_of_lt_of_le (Nat.lt_succ_self _) (Nat.le_succ _) (by omega)
  refine ⟨by rw [← hr]; exact hX,?_⟩
  rw [← hr]; exact Nat.mul_mod_left ..
 ·rintro ⟨a1,a2⟩
  have hr : r = t * 2 ^ j:=by rw [g5,Nat.mul_comm]; omega
  have hX : X = t * t * 2 ^ (2 * j):=by rw [← a1,hr,Zgz]
  refine ⟨?_,by rw [hX]; exact Nat.mul_mod_left ..⟩
  rw [hX,Nat.mul_div_cancel _ hq]
theorem ZAa (F : Fm) (md : Int) (neg : Bool) {X r t j : Nat} (E : Int) (h1 : r * r≤X) (h2 : X < (r + 1) * (r + 1)) (h3 : t * t≤X / 2 ^ (2 * j)) (h4 : X / 2 ^ (2 * j) < (t + 1) * (t + 1)) (h : F.fr + 2≤blen t) :
  sW F md neg t (!decide (X % 2 ^ (2 * j) = 0) || !decide (t * t = X / 2 ^ (2 * j))) (E + j) = sW F md neg r (!decide (r * r = X)) E:=by
 obtain ⟨e1,e2⟩:=ZzT h1 h2 h3 h4
 have hbl:=Zaj r j
 rw [← e1] at hbl
 have h5:=ZgB F md neg (Q:=r) (j:=j) (!decide (r * r = X)) E (by omega)
 rw [← e1] at h5
 rw [← h5]
 congr 1
 rw [Bool.eq_iff_iff]
 simp only [Bool.or_eq_true,Bool.not_eq_true',decide_eq_true_eq,decide_eq_false_iff_not,ne_eq]
 by_cases h6 : t * t = X / 2 ^ (2 * j) <;> by_cases h7 : X % 2 ^ (2 * j) = 0 <;> by_cases h8 : r * r = X <;> by_cases h9 : r % 2 ^ j = 0 <;> simp_all
end Go.Cv
namespace Go.Cv
variable {G : Nat→Option (List AV)} {T : Tbl} {g : Nat}
def quoW (F : Fm) (md : Int) (a b : Dy) : Nat × Nat :=
 sW F md (a.n != b.n) (a.m * 2 ^ quoN 64 a.m b.m / b.m) (!decide (a.m * 2 ^ quoN 64 a.m b.m % b.m = 0)) (a.e - b.e - (quoN 64 a.m b.m : Nat))
theorem ZFo (o1 o2 : Bool) : (!o1 || !o2) = (!o2 || !o1):=by cases o1 <;> cases o2 <;> rfl
theorem head64 {w : Nat} (h : blen w = 64) : headN w = w∧behindN w = false:=by
 unfold headN behindN
 rw [if_pos (by omega),if_pos (by omega),h]
 exact ⟨Nat.mul_one w,rfl⟩
theorem Zzv {n : Bool} {w : Nat} {e : Int} (h : blen w = 64) : headN (mkD n w e).m = w∧behindN (mkD n w e).m = false∧(mkD n w e).e + (blen (mkD n w e).m : Int) = e + 64∧(mkD n w e).m≠0∧(mkD n w e).n = n:=by
 have h0 : w≠0:=by rintro rfl; rw [Zag] at h; omega
 have t1:=(ZfL h0).1
 have hb:=Zaj w (tz w)
 have hz:=Zhi h0
 have hm' : w / 2 ^ tz w≠0:=by intro hc; rw [hc,Zag] at hb; omega
 obtain ⟨e1,e2⟩:=ZtX hm' (tz w)
 rw [← t1] at e1 e2
 rw [Zal h0]
 simp only
 rw [← e1,← e2]
 exact ⟨(head64 h).1,(head64 h).2,by omega,hm',by trivial⟩
theorem ZsB (F : Fm) : F.fr + 2≤54:=by cases F <;> decide
theorem Zrh (J : Al G T g) (F : Fm) {m : Int} (hm : 1≤m∧m≤5) {z y : Bool} {a b : Dy} (da : mayD a.n (dl a.m) a.e = true) (db : mayD b.n (dl b.m) b.e = true)
  (ha : a.m≠0) (hb : b.m≠0) (hw : quoN 64 a.m b.m + blen a.m≤131072) :
  run G T 15 [.int .u8 F.u,.int .u8 m,DyA z a,DyA y b] = some (.tup [.int .u64 ((quoW F m a b).1 : Int),.int .u8 ((quoW F m a b).2 : Int),.int .i64 0]):=by
 rw [Zab G T J.E.Zrh]
 obtain ⟨f1,f2,f3,f4,f5⟩:=Zbx da
 obtain ⟨g1,g2,g3,g4,g5⟩:=Zbx db
 have o1:=ZvC J F hm (n:=a.n) (z:=z) (n':=b.n) (z':=y) (Zao a.m) (Zao b.m) (e:=a.e) (e':=b.e)
 rw [da,db,Bool.and_self,if_pos rfl] at o1
 have s1:=Zcn J (n:=a.n) (z:=z) (Zao a.m) (e:=a.e)
 rw [ZfK da,if_neg ha] at s1
 have s2:=Zcn J (n:=b.n) (z:=y) (Zao b.m) (e:=b.e)
 rw [ZfK db,if_neg hb] at s2
 have bound : ∀ {n : Bool} {m : Nat} {e : Int},mayD n (dl m) e = true→m≠0→mayD false (dl m) 0 = true:=by
  intro n m e hx hx0
  have h1 : ¬ (dl m).length = 0:=by rw [Zan]; exact hx0
  simp only [mayD] at hx ⊢
  rw [if_neg h1] at hx ⊢
  simp only [Bool.and_eq_true,decide_eq_true_eq] at hx ⊢
  exact ⟨hx.1,hx.2.1,by omega⟩
 have hqb:=ZmD (k:=64) ha hb
 obtain ⟨S,hS⟩ : ∃ S,blen (a.m * 2 ^ quoN 64 a.m b.m / b.m) = 64 + S:=⟨blen (a.m * 2 ^ quoN 64 a.m b.m / b.m) - 64,by omega⟩
 obtain ⟨zq,q1⟩:=Zsw J (z:=z) (y:=y) (a:=⟨false,a.m,0⟩) (b:=⟨false,b.m,0⟩) (k:=64) (S:=S) (bound da ha) (bound db hb) ha hb (by omega) hw ⟨by simp,by simp⟩ ⟨by simp,by simp⟩ hS
 simp only at q1
 rw [show ((64 : Nat) : Int) = 64 from rfl] at q1
 have bS:=Zaj (a.m * 2 ^ quoN 64 a.m b.m / b.m) S
 have hb64 : blen (a.m * 2 ^ quoN 64 a.m b.m / b.m / 2 ^ S) = 64:=by omega
 have hq1:=quoN
 have hN : quoN 64 a.m b.m = 64 + 1 + blen b.m - blen a.m:=rfl
 have bS2:=Zap (Nat.div_le_self (a.m * 2 ^ quoN 64 a.m b.m) b.m)
 rw [Zav ha] at bS2
 have bbm:=ZdM g1
 have W : quoW F m a b = partW F m (a.n != b.n) (a.m * 2 ^ quoN 64 a.m b.m / b.m / 2 ^ S) (!decide (a.m * 2 ^ quoN 64 a.m b.m / b.m % 2 ^ S = 0) || !decide (a.m * 2 ^ quoN 64 a.m b.m % b.m = 0))
   ((0 : Int) - 0 - (quoN 64 a.m b.m : Nat) + S + 64 + (a.e - b.e)):=by
  rw [ZsV _ _ _ _ _ hb64]
  have:=ZgB F m (a.n != b.n) (Q:=a.m * 2 ^ quoN 64 a.m b.m / b.m) (j:=S) (!decide (a.m * 2 ^ quoN 64 a.m b.m % b.m = 0)) (a.e - b.e - (quoN 64 a.m b.m : Nat)) (by have:=ZsB F; omega)
  unfold quoW
  simp only [ne_eq,decide_not] at this
  rw [← this,ZFo,show (0 : Int) - 0 - (quoN 64 a.m b.m : Nat) + S + 64 + (a.e - b.e) - 64 = a.e - b.e - (quoN 64 a.m b.m : Nat) + S by omega]
 rw [W]
 clear W bS
 generalize a.m * 2 ^ quoN 64 a.m b.m / b.m % 2 ^ S = R1 at *
 generalize a.m * 2 ^ quoN 64 a.m b.m % b.m = R2 at *
 generalize a.m * 2 ^ quoN 64 a.m b.m / b.m / 2 ^ S = Q at *
 generalize a.m * 2 ^ quoN 64 a.m b.m / b.m = Q0 at *
 have hX : -2000000 < (0 : Int) - 0 - (quoN 64 a.m b.m : Nat) + S∧(0 : Int) - 0 - (quoN 64 a.m b.m : Nat) + S < 2000000:=by omega
 generalize (0 : Int) - 0 - (quoN 64 a.m b.m : Nat) + S = X at *
 obtain ⟨k1,k2,k3,k4,k5⟩:=Zzv (n:=false != false) (e:=X) hb64
 have hd:=Zal (n:=false != false) (m:=Q) (by rintro rfl; rw [Zag] at hb64; omega) X
 have hQ0 : Q≠0:=by rintro rfl; rw [Zag] at hb64; omega
 have tq:=Zhi hQ0
 have hmm : mayL (dl (mkD (false != false) Q X).m) = true:=Zak (by
  have:=Zaj Q (tz Q)
  rw [hd]; simp only; omega)
 have p1:=ZgZ J (z:=zq) (d:=mkD (false != false) Q X) hmm k4 (by rw [hd]; simp only; omega)
 rw [k1,k2,k3] at p1
 have w1:=Zpc J F hm (neg:=a.n != b.n) (more:=!decide (R1 = 0) || !decide (R2 = 0)) (w:=Q) (top:=X + 64 + (a.e - b.e)) hb64 (by omega)
 have wa : IntKind.i64.wrap (a.e - b.e) = a.e - b.e:=Zac (by omega)
 have wb : IntKind.i64.wrap (X + 64 + (a.e - b.e)) = X + 64 + (a.e - b.e):=Zac (by omega)
 clear k1 k2 k3 k4 k5 hd tq hmm hb64 hw hN hqb hS bS2 bbm f1 f2 f3 f4 f5 g1 g2 g3 g4 g5 da db bound hX hq1
 obtain ⟨na,ma,ea⟩:=a
 obtain ⟨nb,mb,eb⟩:=b
 simp only at *
 have hne : (na != nb) = !decide (na = nb):=by cases na <;> cases nb <;> rfl
 rw [hne] at w1 ⊢
 have c1 : ¬ (if na = true then (-1 : Int) else 1) = 0:=by split <;> decide
 have c2 : ¬ (if nb = true then (-1 : Int) else 1) = 0:=by split <;> decide
 generalize (if na = true then (-1 : Int) else 1) = sa at *
 generalize (if nb = true then (-1 : Int) else 1) = sb at *
 generalize (!decide (R1 = 0) || !decide (R2 = 0)) = lost at *
 simp only [DyA,A3,fmA,partA] at *
 cases lost <;> (
  repeat' (first | simp only [seval,exC,ZkR,o1,s1,s2,c1,c2,q1,p1,wa,wb,w1] | simp (disch:=omega) only [dxB])
  all_goals try rfl)
def beyD (n : Bool) (q : Nat) (e : Int) (lost : Bool) : Dy:=if lost then mkD n (q * 2 ^ 2 + 1) (e - 2) else mkD n q e
theorem Zqc {n : Bool} {q : Nat} {e : Int} (hq : blen q = 60) : (mkD n q e).n = n∧topD (mkD n q e) = e + 60∧addD (mkD n q e) ⟨n,1,e - 2⟩ = mkD n (q * 2 ^ 2 + 1) (e - 2):=by
 have h0 : q≠0:=by rintro rfl; rw [Zag] at hq; omega
 refine ⟨by rw [Zal h0],by rw [ZAv h0,hq]; rfl,?_⟩
 have t1:=(ZfL h0).1
 have hb:=Zaj q (tz q)
 have hz:=Zhi h0
 have hm' : q / 2 ^ tz q≠0:=by intro hc; rw [hc,Zag] at hb; omega
 rw [Zal h0]
 unfold addD
 simp only
 rw [if_neg hm',if_neg (by decide),if_pos trivial,show min (e + (tz q : Int)) (e - 2) = e - 2 by omega,show (e + (tz q : Int) - (e - 2)).toNat = tz q + 2 by omega,show (e - 2 - (e - 2)).toNat = 0 by omega,Nat.pow_add,← Nat.mul_assoc,← t1]
theorem ZDz (F : Fm) (md : Int) (n : Bool) {q : Nat} {e : Int} {lost : Bool} (hq : blen q = 60) : rndW F md (beyD n q e lost) = sW F md n q lost e:=by
 have hF:=ZsB F
 unfold beyD
 cases lost
 ·rw [if_neg (by decide),Zte F md n e (by omega)]
 ·have h0 : q≠0:=by rintro rfl; rw [Zag] at hq; omega
  have hb:=Zav h0 2
  have hb2:=Zap (show q * 2 ^ 2≤q * 2 ^ 2 + 1 by omega)
  rw [if_pos rfl,Zte F md n (e - 2) (by omega)]
  exact ZuE F md n (j:=2) e (by decide) (by omega)
theorem ZCS {n : Bool} {q : Nat} {e : Int} {lost : Bool} (hq : blen q = 60) (he : -100000000 < e∧e < 100000000) : Bd (beyD n q e lost) 134217728:=by
 unfold beyD
 split
 ·have h0 : q * 2 ^ 2 + 1≠0:=by omega
  have hb : blen (q * 2 ^ 2 + 1)≤63:=by
   have:=Zaf.1 (Nat.le_of_eq hq)
   refine Zaf.2 ?_
   omega
  exact Zpv (by omega) (by omega) (by omega)
 ·exact Zpv (by omega) (by omega) (by omega)
theorem ZCZ (n : Bool) (q : Nat) (e : Int) (lost : Bool) : Nz (beyD n q e lost):=by
 unfold beyD; split <;> exact ZpZ _ _ _
theorem Zjj (J : Al G T g) {z n lost : Bool} {q : Nat} {e : Int} (hq : blen q = 60) (he : -100000000 < e∧e < 100000000) :
  ∃ z',run G T 42 [DyA z (mkD n q e),.bool lost] = some (DyA z' (beyD n q e lost)):=by
 apply exP
 rw [Zab G T J.E.Zjj]
 obtain ⟨e1,e2,e3⟩:=Zqc (n:=n) (e:=e) hq
 have bd : Bd (mkD n q e) 134217728:=Zpv (by omega) (by omega) (by omega)
 have hl:=Zaa (mkD n q e).m
 have s1:=ZfI J (z:=z) (d:=mkD n q e) (by have:=bd.bl; omega) (by have:=bd.lo; have:=bd.hi; omega)
 rw [e2] at s1
 have s2:=Zok J (n:=e - 2)
 have b2 : Bd (twoD (e - 2)) 134217728:=ZCW (by omega) (by decide)
 unfold beyD
 rw [← e3]
 have w1 : IntKind.i64.wrap (e + 60 - 60) = e:=by rw [Zac (by omega)]; omega
 have w2 : IntKind.i64.wrap (e - 2) = e - 2:=Zac (by omega)
 cases n
 ·obtain ⟨z1,s3⟩:=Zef J (z:=z) (y:=false) (bd.mono (by decide)) (b2.mono (by decide))
  rw [show twoD (e - 2) = ⟨false,1,e - 2⟩ from rfl] at s3
  rw [show twoD (e - 2) = ⟨false,1,e - 2⟩ from rfl] at s2
  simp only [DyA,A3,e1] at *
  cases lost
  ·repeat' (first | simp only [seval,exC,ZbW] | simp (disch:=omega) only [dxB])
   exact ⟨_,rfl,_,(by first | rfl | rw [(Zqc (e:=e) hq).1])⟩
  ·repeat' (first | simp only [seval,exC,ZbW,s1,s2,s3,w1,w2] | simp (disch:=omega) only [dxB])
   exact ⟨_,rfl,_,(by first | rfl | rw [(Zqc (e:=e) hq).1])⟩
 ·obtain ⟨z1,s3⟩:=Zkd J (z:=z) (y:=false) (bd.mono (by decide)) (b2.mono (by decide))
  have hneg : subD (mkD true q e) (twoD (e - 2)) = addD (mkD true q e) ⟨true,1,e - 2⟩:=rfl
  rw [hneg] at s3
  rw [show twoD (e - 2) = ⟨false,1,e - 2⟩ from rfl] at s3 s2
  simp only [DyA,A3,e1] at *
  cases lost
  ·repeat' (first | simp only [seval,exC,ZbW] | simp (disch:=omega) only [dxB])
   exact ⟨_,rfl,_,(by first | rfl | rw [(Zqc (e:=e) hq).1])⟩
  ·repeat' (first | simp only [seval,exC,ZbW,s1,s2,s3,w1,w2] | simp (disch:=omega) only [dxB])
   exact ⟨_,rfl,_,(by first | rfl | rw [(Zqc (e:=e) hq).1])⟩
theorem ZqX (J : Al G T g) (F : Fm) {m : Int} (hm : 1≤m∧m≤5) {z y : Bool} {a b : Dy} (ha : a.m≠0) (hb : b.m≠0) (ba : Bd a 33554432) (bb : Bd b 33554432)
  (la : blen a.m < 1048576) (lb : blen b.m < 1048576) :
  run G T 17 [.int .u8 F.u,.int .u8 m,DyA z a,DyA y b] = some (.tup [.int .u64 ((quoW F m a b).1 : Int),.int .u8 ((quoW F m a b).2 : Int)]):=by
 rw [Zab G T J.E.ZqX]
 have hqb:=ZmD (k:=60) ha hb
 obtain ⟨S,hS⟩ : ∃ S,blen (a.m * 2 ^ quoN 60 a.m b.m / b.m) = 60 + S:=⟨blen (a.m * 2 ^ quoN 60 a.m b.m / b.m) - 60,by omega⟩
 obtain ⟨ba1,ba2,ba3⟩:=ba
 obtain ⟨bb1,bb2,bb3⟩:=bb
 obtain ⟨z1,q1⟩:=ZqW J (z:=z) (y:=y) (a:=a) (b:=b) (k:=60) (S:=S) ha hb la lb (by omega) (by omega) (by omega) (by omega) hS
 rw [show ((60 : Nat) : Int) = 60 from rfl] at q1
 have bS:=Zaj (a.m * 2 ^ quoN 60 a.m b.m / b.m) S
 have hb60 : blen (a.m * 2 ^ quoN 60 a.m b.m / b.m / 2 ^ S) = 60:=by omega
 have bS2:=Zap (Nat.div_le_self (a.m * 2 ^ quoN 60 a.m b.m) b.m)
 rw [Zav ha] at bS2
 have hN : quoN 60 a.m b.m = 60 + 1 + blen b.m - blen a.m:=rfl
 have hN' : quoN 64 a.m b.m = 64 + 1 + blen b.m - blen a.m:=rfl
 have hF:=ZsB F
 have W : quoW F m a b = sW F m (a.n != b.n) (a.m * 2 ^ quoN 60 a.m b.m / b.m / 2 ^ S) (!decide (a.m * 2 ^ quoN 60 a.m b.m / b.m % 2 ^ S = 0) || !decide (a.m * 2 ^ quoN 60 a.m b.m % b.m = 0)) (a.e - b.e - (quoN 60 a.m b.m : Nat) + S):=by
  have h1:=ZIj F m (a.n != b.n) (a:=a.m) (b:=b.m) (N:=quoN 60 a.m b.m) (j:=quoN 64 a.m b.m - quoN 60 a.m b.m) (a.e - b.e - (quoN 60 a.m b.m : Nat)) hb (by omega)
  rw [show quoN 60 a.m b.m + (quoN 64 a.m b.m - quoN 60 a.m b.m) = quoN 64 a.m b.m by omega,show a.e - b.e - (quoN 60 a.m b.m : Nat) - ((quoN 64 a.m b.m - quoN 60 a.m b.m : Nat) : Int) = a.e - b.e - (quoN 64 a.m b.m : Nat) by omega] at h1
  have h2:=ZgB F m (a.n != b.n) (Q:=a.m * 2 ^ quoN 60 a.m b.m / b.m) (j:=S) (!decide (a.m * 2 ^ quoN 60 a.m b.m % b.m = 0)) (a.e - b.e - (quoN 60 a.m b.m : Nat)) (by omega)
  unfold quoW
  simp only [ne_eq,decide_not] at h2
  rw [h1,← h2,ZFo]
 rw [W]
 clear W hF hN'
 have hX : -99000000 < a.e - b.e - (quoN 60 a.m b.m : Nat) + (S : Int)∧a.e - b.e - (quoN 60 a.m b.m : Nat) + (S : Int) < 99000000:=by omega
 clear hN bS2 bS hS hqb
 generalize a.e - b.e - (quoN 60 a.m b.m : Nat) + (S : Int) = X at *
 generalize (!decide (a.m * 2 ^ quoN 60 a.m b.m / b.m % 2 ^ S = 0) || !decide (a.m * 2 ^ quoN 60 a.m b.m % b.m = 0)) = lost at *
 generalize a.m * 2 ^ quoN 60 a.m b.m / b.m / 2 ^ S = Q at *
 obtain ⟨z2,q2⟩:=Zjj J (z:=z1) (n:=a.n != b.n) (lost:=lost) (e:=X) hb60 (by omega)
 have q3:=Zdw J F hm (z:=z2) (x:=beyD (a.n != b.n) Q X lost) (ZCZ _ _ _ _) (ZCS hb60 (by omega))
 rw [ZDz F m _ hb60] at q3
 simp only [DyA,A3] at *
 repeat' (first | simp only [seval,exC,ZkK,q1,q2,q3] | simp (disch:=omega) only [dxB])
 all_goals try rfl
theorem Zwz : ∀ X : Nat,∃ r,r * r≤X∧X < (r + 1) * (r + 1):=by
 intro X
 induction X with
 | zero => exact ⟨0,by decide,by decide⟩
 | succ X ih =>
  obtain ⟨r,h1,h2⟩:=ih
  by_cases h : X + 1 < (r + 1) * (r + 1)
  ·exact ⟨r,by omega,h⟩
  ·refine ⟨r + 1,by omega,?_⟩
   have : (r + 1) * (r + 1) < (r + 1 + 1) * (r + 1 + 1):=Nat.mul_lt_mul_of_lt_of_le (Nat.lt_succ_self _) (Nat.le_succ _) (by omega)
   omega
noncomputable def isq (X : Nat) : Nat:=Classical.choose (Zwz X)
theorem Zgy (X : Nat) : isq X * isq X≤X∧X < (isq X + 1) * (isq X + 1):=Classical.choose_spec (Zwz X)
def rootP (e : Int) : Nat:=130 + (e % 2).toNat
noncomputable def rootW (F : Fm) (md : Int) (d : Dy) : Nat × Nat :=
 sW F md false (isq (d.m * 2 ^ rootP d.e)) (!decide (isq (d.m * 2 ^ rootP d.e) * isq (d.m * 2 ^ rootP d.e) = d.m * 2 ^ rootP d.e)) ((d.e - (rootP d.e : Nat)) / 2)
theorem ZFS {m P : Nat} {n : Int} (h : n≤P) : shN m n = m * 2 ^ P / 2 ^ ((P : Int) - n).toNat∧shB m n = !decide (m * 2 ^ P % 2 ^ ((P : Int) - n).toNat = 0):=by
 unfold shN shB
 by_cases h0 : 0≤n
 ·rw [if_pos h0,if_pos h0,ZkX (by omega),Znl (by omega),show P - ((P : Int) - n).toNat = n.toNat by omega]
  exact ⟨rfl,rfl⟩
 ·rw [if_neg h0,if_neg h0,Zjc (by omega),ZlJ (by omega),show ((P : Int) - n).toNat - P = (-n).toNat by omega]
  have hp:=Nat.two_pow_pos P
  refine ⟨rfl,?_⟩
  congr 1
  refine decide_eq_decide.2 ?_
  constructor
  ·intro h1; rw [h1,Nat.zero_mul]
  ·intro h1
   rcases Nat.mul_eq_zero.1 h1 with h2 | h2
   ·exact h2
   ·omega
theorem ZwX (F : Fm) (md : Int) {m t : Nat} {e n c : Int} (h0 : n≤rootP e) (hc : e - n = 2 * c) (h1 : t * t≤shN m n) (h2 : shN m n < (t + 1) * (t + 1)) (hb : F.fr + 2≤blen t) (s : Bool) :
  sW F md false t (shB m n || !decide (t * t = shN m n)) c = rootW F md ⟨s,m,e⟩:=by
 have hP : rootP e = 130 + (e % 2).toNat:=rfl
 obtain ⟨e1,e2⟩:=ZFS (m:=m) h0
 obtain ⟨r1,r2⟩:=Zgy (m * 2 ^ rootP e)
 have hj : ((rootP e : Nat) - n).toNat = 2 * (((rootP e : Nat) - n).toNat / 2):=by omega
 rw [hj] at e1 e2
 have h3:=ZAa F md false (X:=m * 2 ^ rootP e) (r:=isq (m * 2 ^ rootP e)) (t:=t) (j:=((rootP e : Nat) - n).toNat / 2) ((e - (rootP e : Nat)) / 2) r1 r2 (by rw [← e1]; exact h1) (by rw [← e1]; exact h2) hb
 unfold rootW
 simp only
 rw [← h3,e2,e1,show (e - (rootP e : Nat)) / 2 + ((((rootP e : Nat) - n).toNat / 2 : Nat) : Int) = c by omega]
theorem ZmN (J : Al G T g) (F : Fm) {m : Int} (hm : 1≤m∧m≤5) {z : Bool} {d : Dy} (dd : mayD d.n (dl d.m) d.e = true) (h0 : d.m≠0) (hs : d.n = false) :
  run G T 18 [.int .u8 F.u,.int .u8 m,DyA z d] = some (.tup [.int .u64 ((rootW F m d).1 : Int),.int .u8 ((rootW F m d).2 : Int),.int .i64 0]):=by
 rw [Zab G T J.E.ZmN]
 obtain ⟨f1,f2,f3,f4,f5⟩:=Zbx dd
 have o1:=Znw J F hm (n:=d.n) (z:=z) (Zao d.m) (e:=d.e)
 rw [dd,if_pos rfl] at o1
 have s1:=Zcn J (n:=d.n) (z:=z) (Zao d.m) (e:=d.e)
 rw [ZfK dd,if_neg h0,hs,if_neg (by decide)] at s1
 have hbm:=ZdM f1
 have hbp:=ZcV h0
 obtain ⟨n,hn⟩ : ∃ n : Int,n = 2 * ((64 : Nat) : Int) + 2 - blen d.m + (d.e - (2 * ((64 : Nat) : Int) + 2 - blen d.m)) % 2:=⟨_,rfl⟩
 have hP : rootP d.e = 130 + (d.e % 2).toNat:=rfl
 obtain ⟨c,hc⟩ : ∃ c : Int,d.e - n = 2 * c:=⟨(d.e - n) / 2,by omega⟩
 have hnP : n≤rootP d.e:=by omega
 have hbs:=Zxa h0 (n:=n) (by omega)
 obtain ⟨r,r1,r2⟩:=Zwz (shN d.m n)
 have hrk : 64 < blen r:=ZgX (k:=64) (r:=r) (M:=shN d.m n) (by
  have:=ZbD (n:=shN d.m n) (by intro hc; rw [hc,Zag] at hbs; omega)
  rw [← Nat.pow_add]
  exact Nat.le_trans (Nat.pow_le_pow_right (by decide) (by omega)) this) r2
 obtain ⟨S,hS⟩ : ∃ S,blen r = 64 + S:=⟨blen r - 64,by omega⟩
 obtain ⟨zq,q1⟩:=Zqo J (z:=z) (d:=d) (k:=64) (S:=S) (n:=n) (c:=c) (r:=r) dd h0 hs (by omega) hn hc r1 r2 hS
 rw [show ((64 : Nat) : Int) = 64 from rfl] at q1
 have bS:=Zaj r S
 have hb64 : blen (r / 2 ^ S) = 64:=by omega
 have hbr : blen r≤blen (shN d.m n):=Zap (Nat.le_trans (Nat.le_mul_self r) r1)
 have hF:=ZsB F
 have W : rootW F m d = partW F m false (r / 2 ^ S) (!decide (r % 2 ^ S = 0) || (shB d.m n || !decide (r * r = shN d.m n))) (c + S + 64):=by
  rw [ZsV _ _ _ _ _ hb64]
  have h1:=ZwX F m (m:=d.m) (t:=r) (e:=d.e) (n:=n) (c:=c) hnP hc r1 r2 (by omega) d.n
  have h2:=ZgB F m false (Q:=r) (j:=S) (shB d.m n || !decide (r * r = shN d.m n)) c (by omega)
  simp only [ne_eq,decide_not] at h2
  rw [show rootW F m d = rootW F m ⟨d.n,d.m,d.e⟩ from rfl,← h1,← h2,Bool.or_comm,show c + (S : Int) + 64 - 64 = c + S by omega]
 rw [W]
 clear W bS hrk
 have hX : -10000000 < c + (S : Int)∧c + (S : Int) < 10000000:=by omega
 clear hnP hP hc hn hbs hbr r1 r2 hS hF
 generalize (!decide (r % 2 ^ S = 0) || (shB d.m n || !decide (r * r = shN d.m n))) = lost at *
 generalize c + (S : Int) = X at *
 generalize r / 2 ^ S = Q at *
 have hQ0 : Q≠0:=by rintro rfl; rw [Zag] at hb64; omega
 obtain ⟨k1,k2,k3,k4,k5⟩:=Zzv (n:=false) (e:=X) hb64
 have hd:=Zal (n:=false) (m:=Q) hQ0 X
 have tq:=Zhi hQ0
 have hmm : mayL (dl (mkD false Q X).m) = true:=Zak (by
  have:=Zaj Q (tz Q)
  rw [hd]; simp only; omega)
 have p1:=ZgZ J (z:=zq) (d:=mkD false Q X) hmm k4 (by rw [hd]; simp only; omega)
 rw [k1,k2,k3] at p1
 have w1:=Zpc J F hm (neg:=false) (more:=lost) (w:=Q) (top:=X + 64) hb64 (by omega)
 clear k1 k2 k3 k4 k5 hd tq hmm hb64 f1 f2 f3 f4 f5 dd hX hQ0 hbm hbp
 obtain ⟨ng,mm,e⟩:=d
 simp only at *
 subst hs
 simp only [DyA,A3,fmA,partA] at *
 cases lost <;> (
  repeat' (first | simp only [seval,exC,ZgN,o1,s1,q1,p1,w1] | simp (disch:=omega) only [dxB])
  all_goals try rfl)
theorem ZmG (J : Al G T g) (F : Fm) {m : Int} (hm : 1≤m∧m≤5) {z : Bool} {d : Dy} (h0 : d.m≠0) (bd : Bd d 33554432) (lb : blen d.m < 1048576) :
  run G T 19 [.int .u8 F.u,.int .u8 m,DyA z d] = some (.tup [.int .u64 ((rootW F m d).1 : Int),.int .u8 ((rootW F m d).2 : Int)]):=by
 rw [Zab G T J.E.ZmG]
 have s1:=Zbi J (z:=z) (d:=d)
 have hs : ¬ sgnD d = 0:=by simp only [sgnD,if_neg h0]; split <;> decide
 obtain ⟨ba1,ba2,ba3⟩:=bd
 have hbp:=ZcV h0
 obtain ⟨N,hN⟩ : ∃ N : Nat,(N : Int) = max 0 (2 * ((60 : Nat) : Int) + 2 - blen d.m) + (d.e - max 0 (2 * ((60 : Nat) : Int) + 2 - blen d.m)) % 2 :=
  ⟨(max 0 (2 * ((60 : Nat) : Int) + 2 - blen d.m) + (d.e - max 0 (2 * ((60 : Nat) : Int) + 2 - blen d.m)) % 2).toNat,by omega⟩
 have hP : rootP d.e = 130 + (d.e % 2).toNat:=rfl
 obtain ⟨c,hc⟩ : ∃ c : Int,d.e - N = 2 * c:=⟨(d.e - N) / 2,by omega⟩
 have hnP : (N : Int)≤rootP d.e:=by omega
 have hsh : shN d.m (N : Int) = d.m * 2 ^ N∧shB d.m (N : Int) = false:=by
  unfold shN shB
  rw [if_pos (by omega),if_pos (by omega),Int.toNat_natCast]
  exact ⟨rfl,rfl⟩
 obtain ⟨r,r1,r2⟩:=Zwz (d.m * 2 ^ N)
 have hbN:=Zav h0 N
 have hrk : 60 < blen r:=ZgX (k:=60) (r:=r) (M:=d.m * 2 ^ N) (by
  have:=ZbD (n:=d.m * 2 ^ N) (by intro hc; rw [hc,Zag] at hbN; omega)
  rw [← Nat.pow_add]
  exact Nat.le_trans (Nat.pow_le_pow_right (by decide) (by omega)) this) r2
 obtain ⟨S,hS⟩ : ∃ S,blen r = 60 + S:=⟨blen r - 60,by omega⟩
 obtain ⟨z1,q1⟩:=ZoS J (z:=z) (d:=d) (k:=60) (S:=S) (N:=N) (c:=c) (r:=r) h0 lb (by omega) (by omega) (by omega) hN hc r1 r2 hS
 rw [show ((60 : Nat) : Int) = 60 from rfl] at q1
 have bS:=Zaj r S
 have hb60 : blen (r / 2 ^ S) = 60:=by omega
 have hbr : blen r≤blen (d.m * 2 ^ N):=Zap (Nat.le_trans (Nat.le_mul_self r) r1)
 have hF:=ZsB F
 have W : rootW F m d = sW F m false (r / 2 ^ S) (!decide (r % 2 ^ S = 0) || !decide (r * r = d.m * 2 ^ N)) (c + S):=by
  have h1:=ZwX F m (m:=d.m) (t:=r) (e:=d.e) (n:=N) (c:=c) hnP hc (by rw [hsh.1]; exact r1) (by rw [hsh.1]; exact r2) (by omega) d.n
  rw [hsh.1,hsh.2,Bool.false_or] at h1
  have h2:=ZgB F m false (Q:=r) (j:=S) (!decide (r * r = d.m * 2 ^ N)) c (by omega)
  simp only [ne_eq,decide_not] at h2
  rw [show rootW F m d = rootW F m ⟨d.n,d.m,d.e⟩ from rfl,← h1,← h2,ZFo]
 rw [W]
 clear W bS hrk
 have hX : -99000000 < c + (S : Int)∧c + (S : Int) < 99000000:=by omega
 clear hnP hP hc hN hbN hbr r1 r2 hS hF hsh
 generalize (!decide (r % 2 ^ S = 0) || !decide (r * r = d.m * 2 ^ N)) = lost at *
 generalize c + (S : Int) = X at *
 generalize r / 2 ^ S = Q at *
 obtain ⟨z2,q2⟩:=Zjj J (z:=z1) (n:=false) (lost:=lost) (e:=X) hb60 (by omega)
 have q3:=Zdw J F hm (z:=z2) (x:=beyD false Q X lost) (ZCZ _ _ _ _) (ZCS hb60 (by omega))
 rw [ZDz F m _ hb60] at q3
 simp only [DyA,A3] at *
 repeat' (first | simp only [seval,exC,ZgL,s1,hs,q1,q2,q3] | simp (disch:=omega) only [dxB])
 all_goals try rfl
theorem Zri (J : Al G T g) (F : Fm) {m : Int} (hm : 1≤m∧m≤5) {z : Bool} {d : Dy} (dd : mayD d.n (dl d.m) d.e = true) (h0 : d.m = 0) :
  run G T 18 [.int .u8 F.u,.int .u8 m,DyA z d] = some (.tup [.int .u64 0,.int .u8 0,.int .i64 0]):=by
 rw [Zab G T J.E.ZmN]
 have o1:=Znw J F hm (n:=d.n) (z:=z) (Zao d.m) (e:=d.e)
 rw [dd,if_pos rfl] at o1
 have s1:=Zcn J (n:=d.n) (z:=z) (Zao d.m) (e:=d.e)
 rw [ZfK dd,if_pos h0] at s1
 have hn : d.n = false:=((Zbx dd).2.1 (Zan.2 h0)).1
 simp only [DyA,A3,fmA,hn] at *
 repeat' (first | simp only [seval,exC,ZgN,o1,s1] | simp (disch:=omega) only [dxB])
 all_goals try rfl
theorem ZqY (J : Al G T g) (F : Fm) {m : Int} {z : Bool} {d : Dy} (h0 : d.m = 0) :
  run G T 19 [.int .u8 F.u,.int .u8 m,DyA z d] = some (.tup [.int .u64 0,.int .u8 0]):=by
 rw [Zab G T J.E.ZmG]
 have s1:=Zbi J (z:=z) (d:=d)
 rw [show sgnD d = 0 by simp [sgnD,h0]] at s1
 simp only [DyA,A3] at *
 repeat' (first | simp only [seval,exC,ZgL,s1] | simp (disch:=omega) only [dxB])
 all_goals try rfl
def cT (a b : List Nat) (k i : Nat) : Nat:=if i≤k then dg a i * dg b (k - i) else 0
def cS (a b : List Nat) (k : Nat) : Nat→Nat
 | 0 => 0
 | i + 1 => cS a b k i + cT a b k i
def cV (a b : List Nat) : Nat→Nat
 | 0 => 0
 | N + 1 => cV a b N + 4294967296 ^ N * cS a b N a.length
theorem ZJp (x : Nat) (a : List Nat) : dg (x :: a) 0 = x:=by rw [Zhg (by simp)]; rfl
theorem ZJq (x : Nat) (a : List Nat) (i : Nat) : dg (x :: a) (i + 1) = dg a i:=rfl
theorem Zyv (x : Nat) (a b : List Nat) (k : Nat) : ∀ i,cS (x :: a) b k (i + 1) = x * dg b k + (if k = 0 then 0 else cS a b (k - 1) i)
 | 0 => by
  simp only [cS,cT,ZJp,Nat.sub_zero,Nat.zero_le,if_true,Nat.zero_add]
  split <;> rfl
 | i + 1 => by
  rw [cS,Zyv x a b k i,cT,ZJq]
  by_cases h0 : k = 0
  ·rw [if_pos h0,if_pos h0,if_neg (by omega)]
  ·rw [if_neg h0,if_neg h0,cS,cT]
   by_cases h1 : i + 1≤k
   ·rw [if_pos h1,if_pos (by omega),show k - 1 - i = k - (i + 1) by omega,Nat.add_assoc]
   ·rw [if_neg h1,if_neg (by omega)]; rfl
theorem Zyw (x : Nat) (a b : List Nat) : ∀ N,cV (x :: a) b N = x * val (b.take N) + (if N = 0 then 0 else 4294967296 * cV a b (N - 1))
 | 0 => by simp [cV,val]
 | N + 1 => by
  rw [cV,Zyw x a b N,List.length_cons,Zyv,Zad,if_neg (show ¬ N + 1 = 0 by omega),Nat.add_sub_cancel]
  by_cases h0 : N = 0
  ·subst h0
   rw [if_pos rfl,if_pos rfl]; simp [cV,val]
  ·obtain ⟨M,rfl⟩ : ∃ M,N = M + 1:=⟨N - 1,by omega⟩
   rw [if_neg (show ¬ M + 1 = 0 by omega),if_neg (show ¬ M + 1 = 0 by omega),Nat.add_sub_cancel,cV]
   simp only [Nat.mul_add,Nat.pow_succ]
   generalize cV a b M = V
   generalize cS a b M a.length = S
   generalize val (b.take (M + 1)) = U
   generalize dg b (M + 1) = d
   generalize 4294967296 ^ M = p
   rw [Nat.mul_left_comm (p * 4294967296) x d,show p * 4294967296 * S = 4294967296 * (p * S) by rw [Nat.mul_comm p,Nat.mul_assoc]]
   omega
theorem ZDg (b : List Nat) : ∀ N,cV [] b N = 0
 | 0 => rfl
 | N + 1 => by rw [cV,ZDg b N,List.length_nil,cS,Nat.mul_zero]
theorem ZGC (b : List Nat) : ∀ (a : List Nat) (N : Nat),a.length + b.length≤N→cV a b N = val a * val b
 | [],N,_ => by rw [Ztp,Nat.zero_mul,ZDg]
 | x :: a,N,h => by
  rw [List.length_cons] at h
  rw [Zyw,List.take_of_length_le (by omega),if_neg (by omega),ZGC b a (N - 1) (by omega),ZaD,Nat.add_mul,Nat.mul_assoc]
theorem ZDe {a b : List Nat} {k : Nat} : ∀ {i : Nat},i + b.length≤k + 1→cS a b k i = 0
 | 0,_ => rfl
 | i + 1,h => by
  rw [cS,ZDe (by omega),cT]
  split
  ·rw [ZkW (l:=b) (by omega),Nat.mul_zero]
  ·rfl
theorem ZDf {a b : List Nat} {k : Nat} : ∀ j,cS a b k (k + 1 + j) = cS a b k (k + 1)
 | 0 => rfl
 | j + 1 => by rw [← Nat.add_assoc,cS,ZDf j,cT,if_neg (by omega)]; rfl
theorem ZGB (a b : List Nat) (k n : Nat) : cS a b k (min (k + 1) n) = cS a b k n:=by
 rcases Nat.lt_or_ge n (k + 1) with h | h
 ·rw [Nat.min_eq_right (by omega)]
 ·rw [Nat.min_eq_left h]
  have:=ZDf (a:=a) (b:=b) (k:=k) (n - (k + 1))
  rw [show k + 1 + (n - (k + 1)) = n by omega] at this
  exact this.symm
theorem ZJi {a b : List Nat} (ha : Dg a) (hb : Dg b) (k i : Nat) : cT a b k i < 18446744073709551616:=by
 unfold cT; split
 ·have:=Zzs (ha.dg i) (hb.dg (k - i)) (show 0 < 4294967296 by decide) (show 0 < 4294967296 by decide); omega
 ·decide
theorem ZEi {a b : List Nat} (ha : Dg a) (hb : Dg b) (k : Nat) : ∀ i,cS a b k i≤i * 18446744073709551616
 | 0 => Nat.zero_le _
 | i + 1 => by
  have:=ZJi ha hb k i
  have:=ZEi ha hb k i
  rw [cS]; omega
theorem ZEj {V A L p k S : Nat} (h : L + p * A = V) : L + p * ((A + S) % 4294967296) + p * 4294967296 * ((A + S) / 4294967296) = V + p * S:=by
 rw [Nat.mul_assoc,Nat.add_assoc,← Nat.mul_add,Nat.mod_add_div,Nat.mul_add]; omega
theorem ZHR {a h : Nat} (ha : a < 4294967296) : orI .u64 (a : Int) ((h : Int) * 4294967296 % 18446744073709551616) = ((a + h % 4294967296 * 4294967296 : Nat) : Int):=by
 have e : (h : Int) * 4294967296 % 18446744073709551616 = ((h % 4294967296 * 4294967296 : Nat) : Int):=by omega
 rw [e,or64 (by omega) (by omega),show (4294967296 : Nat) = 2 ^ 32 from rfl,ZmX (show a < 2 ^ 32 from ha)]
theorem ZpX {a b : List Nat} {z y : Bool} {k A : Nat} {v : AV} (ha : Dg a) (hb : Dg b) (hs : a.length < 1073741824) (hk : k < 2147483648) (hA : A < 1298074214633706907132624082305024) : ∀ (m i : Nat) (h : Heap) (low high : Nat),
  m + i = min (k + 1) a.length→k < b.length + i→low < 18446744073709551616→low + 18446744073709551616 * high = A + cS a b k i →
  Post (evL G T Zgm [(0,D z a),(1,D y b),(5,v),(6,.int .u64 (low : Int)),(7,.int .u64 (high : Int)),(8,.int .i64 (k : Int)),(10,.int .i64 (i : Int))] h) fun r =>
   ∃ e low' high',r = (.exit 2,(0,D z a) :: (1,D y b) :: (5,v) :: (6,.int .u64 ((low' : Nat) : Int)) :: (7,.int .u64 ((high' : Nat) : Int)) :: (8,.int .i64 (k : Int)) :: e,h)∧low' < 18446744073709551616∧low' + 18446744073709551616 * high' = A + cS a b k a.length
 | 0,i,h,low,high,hm,hi,hl,he => by
  rw [Zae G T (c:=Zgm) rfl]
  have hend:=ZGB a b k a.length
  rw [show min (k + 1) a.length = i by omega] at hend
  rw [hend] at he
  by_cases h1 : (i : Int)≤(k : Int)
  ·have h2 : ¬ (i : Int) < (a.length : Int):=by omega
   repeat (first | simp only [seval,evB,ZdZ,h1,h2] | simp (disch:=omega) only [dsB])
   exact Post.some ⟨_,_,_,rfl,hl,he⟩
  ·repeat (first | simp only [seval,evB,ZdZ,h1] | simp (disch:=omega) only [dsB])
   exact Post.some ⟨_,_,_,rfl,hl,he⟩
 | m + 1,i,h,low,high,hm,hi,hl,he => by
  rw [Zae G T (c:=Zgm) rfl]
  have h1 : (i : Int)≤(k : Int):=by omega
  have h2 : (i : Int) < (a.length : Int):=by omega
  have e7 : (i : Int) + 1 = ((i + 1 : Nat) : Int):=by omega
  have e8 : (k : Int) - (i : Int) = ((k - i : Nat) : Int):=by omega
  have hx:=ha.dg i
  have hy:=hb.dg (k - i)
  have hki : k - i < b.length:=by omega
  have w1 : (dg a i : Int) % 18446744073709551616 = dg a i:=by omega
  have w2 : (dg b (k - i) : Int) % 18446744073709551616 = dg b (k - i):=by omega
  have hM:=Zzs hx hy (show 0 < 4294967296 by decide) (show 0 < 4294967296 by decide)
  have hSb:=ZEi ha hb k i
  have w4 : (dg a i : Int) * (dg b (k - i) : Int) = ((dg a i * dg b (k - i) : Nat) : Int):=by rw [Int.natCast_mul]
  have hcs : cS a b k (i + 1) = cS a b k i + dg a i * dg b (k - i):=by rw [cS,cT,if_pos (by omega)]
  generalize dg a i * dg b (k - i) = p at *
  have w5 : (p : Int) % 18446744073709551616 = p:=by omega
  by_cases hc : low + p < 18446744073709551616
  ·have w6 : ((low : Int) + (p : Int)) % 18446744073709551616 = ((low + p : Nat) : Int):=by omega
   have w7 : ¬ ((low + p : Nat) : Int) < (p : Int):=by omega
   repeat (first | simp only [seval,evB,ZdZ,h1,h2,e7,e8,w1,w2,w4,w5,w6,w7] | simp (disch:=omega) only [dsB])
   exact ZpX ha hb hs hk hA m (i + 1) _ _ _ (by omega) (by omega) hc (by rw [hcs]; omega)
  ·have w6 : ((low : Int) + (p : Int)) % 18446744073709551616 = ((low + p - 18446744073709551616 : Nat) : Int):=by omega
   have w7 : ((low + p - 18446744073709551616 : Nat) : Int) < (p : Int):=by omega
   have w8 : ((high : Int) + 1) % 18446744073709551616 = ((high + 1 : Nat) : Int):=by omega
   repeat (first | simp only [seval,evB,ZdZ,h1,h2,e7,e8,w1,w2,w4,w5,w6,w7,w8] | simp (disch:=omega) only [dsB])
   exact ZpX ha hb hs hk hA m (i + 1) _ _ _ (by omega) (by omega) (by omega) (by rw [hcs]; omega)
theorem ZpY {a b : List Nat} {z y : Bool} (ha : Dg a) (hb : Dg b) (hs : a.length < 1073741824) (ht : b.length < 1073741824) : ∀ (m k : Nat) (h : Heap) (v : AV) (l : List Nat) (low high : Nat),
  m + k = a.length + b.length→Bld h v l→Dg l→l.length = k→low < 18446744073709551616→low + 18446744073709551616 * high < 1298074214633706907132624082305024 →
  val l + 4294967296 ^ k * (low + 18446744073709551616 * high) = cV a b k →
  Post (evL G T Zgn [(0,D z a),(1,D y b),(5,v),(6,.int .u64 (low : Int)),(7,.int .u64 (high : Int)),(8,.int .i64 (k : Int))] h) fun r =>
   ∃ e h' v' l' c',r = (.exit 0,(0,D z a) :: (1,D y b) :: (5,v') :: e,h')∧Bld h' v' l'∧Dg l'∧l'.length = a.length + b.length∧val l' + 4294967296 ^ (a.length + b.length) * c' = val a * val b
 | 0,k,h,v,l,low,high,hm,B,hd,hl,hlow,hA,he => by
  rw [Zae G T (c:=Zgn) rfl]
  have e1 : (a.length : Int) + (b.length : Int) = ((a.length + b.length : Nat) : Int):=by omega
  have h1 : ¬ (k : Int) < ((a.length + b.length : Nat) : Int):=by omega
  repeat (first | simp only [seval,evB,Zgl,e1,h1] | simp (disch:=omega) only [dsB])
  rw [show k = a.length + b.length by omega,ZGC b a _ (Nat.le_refl _)] at he
  exact Post.some ⟨_,_,_,_,_,rfl,B,hd,by omega,he⟩
 | m + 1,k,h,v,l,low,high,hm,B,hd,hl,hlow,hA,he => by
  rw [Zae G T (c:=Zgn) rfl]
  have e1 : (a.length : Int) + (b.length : Int) = ((a.length + b.length : Nat) : Int):=by omega
  have h1 : (k : Int) < ((a.length + b.length : Nat) : Int):=by omega
  have e7 : (k : Int) + 1 = ((k + 1 : Nat) : Int):=by omega
  obtain ⟨i0,hi0⟩ : ∃ i0,i0 = k + 1 - b.length:=⟨_,rfl⟩
  have hlow0 : cS a b k i0 = 0:=by
   by_cases q : b.length≤k + 1
   ·exact ZDe (by omega)
   ·have : i0 = 0:=by omega
    rw [this]; rfl
  obtain ⟨_,hr,e,low',high',rfl,hlow',he'⟩:=ZpX (G:=G) (T:=T) (z:=z) (y:=y) (v:=v) (k:=k) (A:=low + 18446744073709551616 * high) ha hb hs (by omega) hA (min (k + 1) a.length - i0) i0 h low high (by omega) (by omega) hlow (by rw [hlow0]; rfl)
  have hSb:=ZEi ha hb k a.length
  have hstep:=ZEj (S:=cS a b k a.length) (k:=k) he
  rw [← he'] at hstep
  have hacc : low' + 18446744073709551616 * high' < 2596148429267413814265248164610048:=by omega
  have hbnd : (low' + 18446744073709551616 * high') / 4294967296 < 1298074214633706907132624082305024:=by omega
  have hlo : (low' + 18446744073709551616 * high') % 4294967296 = low' % 4294967296:=by omega
  have hnew : low' / 4294967296 + high' % 4294967296 * 4294967296 + 18446744073709551616 * (high' / 4294967296) = (low' + 18446744073709551616 * high') / 4294967296:=by omega
  rw [hlo,← hnew] at hstep
  rw [← hnew] at hbnd
  clear hlo hnew hSb
  have w2 : (low' : Int) % 4294967296 = ((low' % 4294967296 : Nat) : Int):=by omega
  have w3 : (low' : Int) / 4294967296 = ((low' / 4294967296 : Nat) : Int):=by omega
  have w4:=ZHR (a:=low' / 4294967296) (h:=high') (by omega)
  have w5 : (high' : Int) / 4294967296 = ((high' / 4294967296 : Nat) : Int):=by omega
  have hm1 : low' % 4294967296 < 4294967296:=Nat.mod_lt _ (by decide)
  have hq : low' / 4294967296 + high' % 4294967296 * 4294967296 < 18446744073709551616:=by omega
  have key : val (l ++ [low' % 4294967296]) + 4294967296 ^ (k + 1) * (low' / 4294967296 + high' % 4294967296 * 4294967296 + 18446744073709551616 * (high' / 4294967296)) = cV a b (k + 1):=by
   rw [Zeq,hl,Nat.pow_succ,cV]; exact hstep
  have B2:=(ZdV B (w:=((low' % 4294967296 : Nat) : Int)) (by omega) (by omega)).2
  rw [Int.toNat_natCast] at B2
  by_cases h2 : (b.length : Int)≤(k : Int)
  ·have e8 : (k : Int) - (b.length : Int) = ((k - b.length : Nat) : Int):=by omega
   have e9 : ((k - b.length : Nat) : Int) + 1 = (i0 : Int):=by omega
   repeat (first | simp only [seval,evB,Zgl,e1,h1,h2,e8,e9,hr,w2,w3,w4,w5,e7 ] | simp (disch:=omega) only [dsB,ZmS B])
   exact ZpY ha hb hs ht m (k + 1) _ _ _ _ _ (by omega) B2 (Zcv hd hm1) (by rw [List.length_append,hl]; rfl) hq hbnd key
  ·have hz : i0 = 0:=by omega
   subst hz
   rw [cast0] at hr
   repeat (first | simp only [seval,evB,Zgl,e1,h1,h2,hr,w2,w3,w4,w5,e7 ] | simp (disch:=omega) only [dsB,ZmS B])
   exact ZpY ha hb hs ht m (k + 1) _ _ _ _ _ (by omega) B2 (Zcv hd hm1) (by rw [List.length_append,hl]; rfl) hq hbnd key
theorem ZqU (J : Al G T g) {z y : Bool} {a b : Nat} (hs : (dl a).length < 1073741824) (ht : (dl b).length < 1073741824) : ∃ z',run G T 158 [D z (dl a),D y (dl b)] = some (D z' (dl (a * b))):=by
 apply exP
 rw [Zab G T J.F.ZqU]
 by_cases h1 : ((dl a).length : Int) = 0
 ·have ha : a = 0:=Zan.1 (by omega)
  repeat (first | simp only [seval,evB,ZfU,h1] | simp (disch:=omega) only [dsB])
  rw [ha,Nat.zero_mul,Zai]
  exact Post.some ⟨true,rfl⟩
 ·by_cases h2 : ((dl b).length : Int) = 0
  ·have hb : b = 0:=Zan.1 (by omega)
   repeat (first | simp only [seval,evB,ZfU,h1,h2] | simp (disch:=omega) only [dsB])
   rw [hb,Nat.mul_zero,Zai]
   exact Post.some ⟨true,rfl⟩
  ·obtain ⟨_,hr,e,h',v',l',c',rfl,B,hd,hl,hv⟩:=ZpY (G:=G) (T:=T) (z:=z) (y:=y) (Zao a) (Zao b) hs ht ((dl a).length + (dl b).length) 0 .nil .nil [] 0 0 rfl Zsh Dg.nil rfl (by decide) (by decide) rfl
   rw [cast0] at hr
   have hva:=ZfN (Zao a)
   have hvb:=ZfN (Zao b)
   have hc0 : val l' = a * b:=by
    rw [ZaE] at hva hvb hv
    rw [ZaE] at hv
    have hlt : a * b < 4294967296 ^ ((dl a).length + (dl b).length):=by
     rw [Nat.pow_add]; exact Nat.mul_lt_mul_of_lt_of_lt hva hvb
    rcases Nat.eq_zero_or_pos c' with hc | hc
    ·rw [hc,Nat.mul_zero,Nat.add_zero] at hv; exact hv
    ·have:=Nat.mul_le_mul_left (4294967296 ^ ((dl a).length + (dl b).length)) hc
     omega
   obtain ⟨z',hz⟩:=ZcQ J (z:=isN v') hd (by omega)
   rw [hc0] at hz
   repeat (first | simp only [seval,evB,ZfU,h1,h2,hr,B.snap,hz] | simp (disch:=omega) only [dsB])
   exact Post.some ⟨_,rfl⟩
theorem Zkc (J : Al G T g) {z y : Bool} {a b : Dy} (ha : (dl a.m).length < 1073741824) (hb : (dl b.m).length < 1073741824) (ea : -274877906944 < a.e∧a.e < 274877906944) (eb : -274877906944 < b.e∧b.e < 274877906944) :
  ∃ z',run G T 154 [DyA z a,DyA y b] = some (DyA z' (mkD (a.n != b.n) (a.m * b.m) (a.e + b.e))):=by
 obtain ⟨n,m,e⟩:=a
 obtain ⟨n',m',e'⟩:=b
 simp only at *
 obtain ⟨z1,h1⟩:=ZqU J (z:=z) (y:=y) (a:=m) (b:=m') ha hb
 have hl : (dl (m * m')).length < 17179869184:=by
  have h1:=Zcl.1 (Nat.le_refl (dl m).length)
  have h2:=Zcl.1 (Nat.le_refl (dl m').length)
  have h3 : (dl (m * m')).length≤(dl m).length + (dl m').length:=by
   rw [Zcl,Nat.pow_add]; exact Nat.mul_lt_mul_of_lt_of_lt h1 h2
  omega
 obtain ⟨z2,h2⟩:=ZaQ J (n:=n != n') (z:=z1) (a:=m * m') (e:=e + e') hl (by omega)
 have w1 : IntKind.i64.wrap (e + e') = e + e':=Zac (by omega)
 have hne : (n != n') = !decide (n = n'):=by cases n <;> cases n' <;> rfl
 refine ⟨z2,?_⟩
 rw [hne] at h2 ⊢
 rw [Zab G T J.F.Zkc]
 simp only [DyA,A3] at *
 repeat' (first | simp only [seval,exC,ZkF,h1,w1,h2] | simp (disch:=omega) only [dxB])
theorem Zys {x y a b : Nat} (hx : blen x≤a) (hy : blen y≤b) : blen (x * y)≤a + b:=by
 refine Zaf.2 ?_
 rw [Nat.pow_add]
 exact Nat.mul_lt_mul_of_lt_of_lt (Zaf.1 hx) (Zaf.1 hy)
theorem ZsI {n : Bool} {m : Nat} {e : Int} (h : m % 2 = 1) : mkD n m e = ⟨n,m,e⟩:=by
 rw [Zal (by omega),ZuV h,Nat.pow_zero,Nat.div_one]; simp
theorem ZpI {n : Bool} {m : Nat} {e : Int} (h : m % 2 = 1) (j : Nat) : mkD n (m * 2 ^ j) (e - j) = ⟨n,m,e⟩:=by
 have hp:=Nat.two_pow_pos j
 have h0 : m * 2 ^ j≠0:=by
  intro hc
  rcases Nat.mul_eq_zero.1 hc with h1 | h1 <;> omega
 rw [Zal h0,ZfM h,Nat.mul_div_cancel _ hp,show e - (j : Int) + j = e by omega]
theorem ZFg {a b : Nat} (ha : a % 2 = 1) (hb : b % 2 = 1) : a * b % 2 = 1:=by rw [Nat.mul_mod,ha,hb]
def Fm.nan (F : Fm) : Nat:=F.most * 2 ^ F.fr + 2 ^ (F.fr - 1)
theorem Zpj {F : Fm} {w : Nat} (h : w < 2 * F.sg) : w = w % F.sg + F.sgn (F.ng w)∧w % F.sg = 2 ^ F.fr * F.ex w + F.fc w∧F.fc w < 2 ^ F.fr∧F.ex w≤F.most:=by
 have hp:=Nat.two_pow_pos F.fr
 have hsg : F.sg = 2 ^ F.fr * (F.most + 1):=by cases F <;> decide
 have h0 : 0 < F.sg:=by cases F <;> decide
 refine ⟨?_,(Nat.div_add_mod _ _).symm,Nat.mod_lt _ hp,?_⟩
 ·unfold Fm.ng Fm.sgn
  by_cases h1 : F.sg≤w
  ·rw [decide_eq_true h1,if_pos rfl,Nat.mod_eq_sub_mod h1,Nat.mod_eq_of_lt (by omega)]; omega
  ·rw [decide_eq_false h1,if_neg (by decide),Nat.mod_eq_of_lt (by omega)]; rfl
 ·have h1:=Nat.mod_lt w h0
  have : w % F.sg / 2 ^ F.fr < F.most + 1:=Nat.div_lt_of_lt_mul (by rw [← hsg]; exact h1)
  unfold Fm.ex; omega
theorem ZbS (F : Fm) (w : Nat) : F.cls w = 1∨F.cls w = 2∨F.cls w = 3∨F.cls w = 4∨F.cls w = 5:=by
 unfold Fm.cls; repeat' split
 all_goals omega
theorem Zyy {F : Fm} {w : Nat} (h : w < 2 * F.sg) : F.cls w = 1↔w % F.sg = 0:=by
 obtain ⟨h1,h2,h3,h4⟩:=Zpj h
 have hp:=Nat.two_pow_pos F.fr
 rw [h2]
 unfold Fm.cls
 generalize F.ex w = x at *
 generalize F.fc w = y at *
 constructor
 ·intro hc
  have hx : x = 0∧y = 0:=by
   by_cases a : x = 0
   ·by_cases b : y = 0
    ·exact ⟨a,b⟩
    ·rw [if_pos a,if_neg b] at hc; omega
   ·rw [if_neg a] at hc
    split at hc
    ·omega
    ·split at hc <;> omega
  rw [hx.1,hx.2]; rfl
 ·intro hc
  have hy : y = 0:=by omega
  have hx : x = 0:=by
   rcases Nat.mul_eq_zero.1 (show 2 ^ F.fr * x = 0 by omega) with q | q
   ·omega
   ·exact q
  rw [if_pos hx,if_pos hy]
theorem ZBa {F : Fm} {w : Nat} (h : w < 2 * F.sg) : F.cls w = 4↔w % F.sg = F.most * 2 ^ F.fr:=by
 obtain ⟨h1,h2,h3,h4⟩:=Zpj h
 have hp:=Nat.two_pow_pos F.fr
 have hm0 : 0 < F.most:=by cases F <;> decide
 rw [h2]
 unfold Fm.cls
 generalize F.ex w = x at *
 generalize F.fc w = y at *
 constructor
 ·intro hc
  by_cases a : x = 0
  ·rw [if_pos a] at hc; split at hc <;> omega
  ·rw [if_neg a] at hc
   by_cases b : x < F.most
   ·rw [if_pos b] at hc; omega
   ·rw [if_neg b] at hc
    by_cases c : y = 0
    ·rw [c,show x = F.most by omega,Nat.mul_comm]; rfl
    ·rw [if_neg c] at hc; omega
 ·intro hc
  have hx : x = F.most:=by
   rcases Nat.lt_or_ge x F.most with q | q
   ·have:=Nat.mul_le_mul_left (2 ^ F.fr) q
    rw [Nat.mul_succ,Nat.mul_comm (2 ^ F.fr) F.most] at this
    omega
   ·omega
  have hy : y = 0:=by rw [hx,Nat.mul_comm] at hc; omega
  rw [if_neg (by omega),if_neg (by omega),if_pos hy]
theorem Zms {F : Fm} {w : Nat} (h : w < 2 * F.sg) (hc : F.cls w = 1) : w = F.sgn (F.ng w)∧F.val w = ⟨false,0,0⟩:=by
 have h1:=(Zpj h).1
 rw [(Zyy h).1 hc,Nat.zero_add] at h1
 refine ⟨h1,?_⟩
 rw [h1]
 have:=Zxq F (F.ng w)
 rw [Nat.zero_add] at this
 exact this
theorem Zqg {F : Fm} {w : Nat} (h : w < 2 * F.sg) (hc : F.cls w = 4) : w = F.inf (F.ng w):=by
 have h1:=(Zpj h).1
 rw [(ZBa h).1 hc] at h1
 exact h1
theorem ZvP {F : Fm} {w : Nat} (h : w < 2 * F.sg) (h1 : F.cls w≠1) (h2 : F.fin w) : (F.val w).m≠0:=by
 obtain ⟨s,n,hw,q1,q2,q3⟩:=ZxZ h
 have h0 : s≠0:=by
  rintro rfl
  apply h1
  rw [Zyy h,hw]
  exact (ZeA n q1).1
 rw [hw]; exact (ZuA F 1 n (q2 h2) h0).2
def sumW (F : Fm) (md : Int) (d : Dy) : Nat × Nat:=if d.m = 0 then (F.sgn (decide (md = 5)),0) else rndW F md d
def addP (F : Fm) (md : Int) (c : Int) (n : Bool) (d : Dy) (c' : Int) (n' : Bool) (d' : Dy) : Nat × Nat :=
 if c = 5∨c' = 5 then (F.nan,0)
 else if c = 4∧c' = 4∧n≠n' then (F.nan,1)
 else if c = 4 then (F.inf n,0)
 else if c' = 4 then (F.inf n',0)
 else if c = 1∧c' = 1∧n = n' then (F.sgn n,0)
 else sumW F md (addD d d')
def mulD (a b : Dy) : Dy:=mkD (a.n != b.n) (a.m * b.m) (a.e + b.e)
def mulP (F : Fm) (md : Int) (c : Int) (n : Bool) (d : Dy) (c' : Int) (n' : Bool) (d' : Dy) : Nat × Nat :=
 if c = 5∨c' = 5 then (F.nan,0)
 else if (c = 4∨c' = 4)∧(c = 1∨c' = 1) then (F.nan,1)
 else if c = 4∨c' = 4 then (F.inf (n != n'),0)
 else if c = 1∨c' = 1 then (F.sgn (n != n'),0)
 else sumW F md (mulD d d')
def Fm.vl (F : Fm) (w : Nat) : Dy:=if F.fin w then F.val w else ⟨false,0,0⟩
def addW (F : Fm) (md : Int) (a b : Nat) : Nat × Nat:=addP F md (F.cls a) (F.ng a) (F.vl a) (F.cls b) (F.ng b) (F.vl b)
def subW (F : Fm) (md : Int) (a b : Nat) : Nat × Nat:=addP F md (F.cls a) (F.ng a) (F.vl a) (F.cls b) (!F.ng b) (negD (F.vl b))
def mulW2 (F : Fm) (md : Int) (a b : Nat) : Nat × Nat:=mulP F md (F.cls a) (F.ng a) (F.vl a) (F.cls b) (F.ng b) (F.vl b)
theorem ZtB {a b : Dy} (ha : Nz a) (hb : Nz b) : addD a b = addD b a:=by
 unfold addD
 by_cases h1 : a.m = 0
 ·by_cases h2 : b.m = 0
  ·rw [if_pos h1,if_pos h2,ha.1 h1,hb.1 h2]
  ·rw [if_pos h1,if_neg h2,if_pos h1]
 ·by_cases h2 : b.m = 0
  ·rw [if_neg h1,if_pos h2,if_pos h2]
  ·rw [if_neg h1,if_neg h2,if_neg h2,if_neg h1,Int.min_comm b.e a.e]
   generalize a.m * 2 ^ (a.e - min a.e b.e).toNat = x
   generalize b.m * 2 ^ (b.e - min a.e b.e).toNat = y
   by_cases h3 : a.n = b.n
   ·rw [if_pos h3,if_pos h3.symm,h3,Nat.add_comm]
   ·rw [if_neg h3,if_neg (show ¬ b.n = a.n from fun h => h3 h.symm)]
    by_cases h4 : y≤x
    ·by_cases h5 : x≤y
     ·rw [if_pos h4,if_pos h5,show x = y by omega,Nat.sub_self]; rfl
     ·rw [if_pos h4,if_neg h5]
    ·rw [if_neg h4,if_pos (by omega)]
def Fm.flip (F : Fm) (w : Nat) : Nat:=w % F.sg + F.sgn (!F.ng w)
theorem ZoL {F : Fm} {w : Nat} (h : w < 2 * F.sg) : F.flip w < 2 * F.sg∧F.ng (F.flip w) = !F.ng w∧F.cls (F.flip w) = F.cls w∧F.vl (F.flip w) = negD (F.vl w):=by
 have h0 : 0 < F.sg:=by cases F <;> decide
 have h1:=Nat.mod_lt w h0
 obtain ⟨e1,e2⟩:=ZeA (F:=F) (!F.ng w) h1
 have hx : F.ex (F.flip w) = F.ex w:=by unfold Fm.ex Fm.flip; rw [e1]
 have hy : F.fc (F.flip w) = F.fc w:=by unfold Fm.fc Fm.flip; rw [e1]
 refine ⟨?_,e2,?_,?_⟩
 ·unfold Fm.flip Fm.sgn; split <;> omega
 ·unfold Fm.cls; rw [hx,hy]
 ·have hn : F.ng (F.flip w) = !F.ng w:=e2
  have hff : F.fin (F.flip w)↔F.fin w:=by unfold Fm.fin; rw [hx]
  unfold Fm.vl
  by_cases h3 : F.fin w
  ·rw [if_pos h3,if_pos (hff.2 h3)]
   unfold Fm.val
   rw [hx,hy,hn]
   have hmk : ∀ (m : Nat) (e : Int),mkD (!F.ng w) m e = negD (mkD (F.ng w) m e):=fun m e => by
    by_cases hm : m = 0
    ·subst hm; rfl
    ·unfold negD; rw [if_neg (ZlH hm e),Zal hm,Zal hm]
   split <;> exact hmk _ _
  ·rw [if_neg h3,if_neg (fun h => h3 (hff.1 h))]; rfl
theorem ZuR (F : Fm) (md : Int) {a b : Nat} (hb : b < 2 * F.sg) : subW F md a b = addW F md a (F.flip b):=by
 obtain ⟨h1,h2,h3,h4⟩:=ZoL hb
 unfold subW addW; rw [h2,h3,h4]
theorem Zes (F : Fm) (w : Nat) : Nz (F.vl w):=by
 unfold Fm.vl; split
 ·unfold Fm.val; split <;> exact ZpZ _ _ _
 ·exact ⟨fun _ => rfl,fun h => absurd rfl h⟩
theorem ZbO (F : Fm) (w : Nat) : Bd (F.vl w) 4096:=by
 unfold Fm.vl; split
 ·rename_i h; exact ZGp F h
 ·exact ⟨by simp only [Zag]; omega,by simp,by simp⟩
theorem Zbu {F : Fm} {w : Nat} : F.fin w↔F.cls w = 1∨F.cls w = 2∨F.cls w = 3:=by
 have h1:=ZyW F w
 have h2:=ZbS F w
 constructor
 ·intro h; have:=h1.1 h; omega
 ·intro h; exact h1.2 (by omega)
theorem Zjo {l : List Nat} {i v : Nat} (h : i < l.length) : val ((l.set i v).take (i + 1)) = val (l.take i) + 4294967296 ^ i * v:=by
 rw [Zad,List.take_set_of_le (Nat.le_refl i)]
 congr 2
 rw [Zhg (by rw [List.length_set]; exact h),List.getElem_set_self]
theorem ZnV (J : Al G T g) {A B : List Nat} {z y : Bool} {b : Nat} (hA : Dg A) (hB : Dg B) (hs : A.length < 17179869184) (ht : B.length≤A.length) : ∀ (m i : Nat) (h : Heap) (l : List Nat) (c : Nat),
  m + i = A.length→Holds h b l→Dg l→l.length = A.length + 1→c≤1→val (l.take i) + 4294967296 ^ i * c = val (A.take i) + val (B.take i) →
  Post (evL G T ZiF [(0,D z A),(1,D y B),(6,.own b 0 (A.length + 1) 1),(7,.int .u32 (c : Int)),(27,.int .i64 ((A.length : Nat) : Int)),(28,.int .i64 (i : Int))] h) fun r =>
   ∃ e h' l' c',r = (.exit 0,(0,D z A) :: (1,D y B) :: (6,.own b 0 (A.length + 1) 1) :: (7,.int .u32 ((c' : Nat) : Int)) :: e,h')∧Holds h' b l'∧Dg l'∧l'.length = A.length + 1∧c'≤1∧val (l'.take A.length) + 4294967296 ^ A.length * c' = val A + val B
 | 0,i,h,l,c,hm,H,hd,hl,hc,he => by
  rw [Zae G T (c:=ZiF) rfl]
  have h1 : ¬ (i : Int) < (A.length : Int):=by omega
  repeat (first | simp only [seval,evB,ZiE,h1] | simp (disch:=omega) only [dsB])
  obtain rfl : i = A.length:=by omega
  rw [List.take_length,List.take_of_length_le ht] at he
  exact Post.some ⟨_,_,_,_,rfl,H,hd,hl,hc,he⟩
 | m + 1,i,h,l,c,hm,H,hd,hl,hc,he => by
  rw [Zae G T (c:=ZiF) rfl]
  have h1 : (i : Int) < (A.length : Int):=by omega
  have e7 : (i : Int) + 1 = ((i + 1 : Nat) : Int):=by omega
  have hx:=hA.dg i
  have hy:=hB.dg i
  have hil : i < l.length:=by omega
  have hb:=ZjH J (x:=dg A i) (y:=dg B i) (w:=c) (d:=(dg A i + dg B i + c) % 4294967296) (z:=(dg A i + dg B i + c) / 4294967296) hx hy hc (Nat.mod_lt _ (by decide)) (by omega) (by omega)
  have key : val ((l.set i ((dg A i + dg B i + c) % 4294967296)).take (i + 1)) + 4294967296 ^ (i + 1) * ((dg A i + dg B i + c) / 4294967296) = val (A.take (i + 1)) + val (B.take (i + 1)):=by
   rw [Zjo hil,Zad,Zad,Nat.pow_succ,Nat.mul_assoc,Nat.add_assoc,← Nat.mul_add,Nat.mod_add_div,Nat.mul_add,Nat.mul_add]
   omega
  have hz : (dg A i + dg B i + c) / 4294967296≤1:=by omega
  have hm1 : (dg A i + dg B i + c) % 4294967296 < 4294967296:=Nat.mod_lt _ (by decide)
  by_cases h2 : (i : Int) < (B.length : Int)
  ·repeat (first | simp only [seval,evB,ZiE,h1,h2,hb,e7 ] | simp (disch:=omega) only [dsB,ZcU H])
   exact ZnV J hA hB hs ht m (i + 1) _ _ _ (by omega) (H.put _) (ZeB hd hm1) (by rw [List.length_set]; exact hl) hz key
  ·have hg : dg B i = 0:=ZkW (by omega)
   rw [hg] at hb key hz hm1
   rw [cast0] at hb
   repeat (first | simp only [seval,evB,ZiE,h1,h2,hb,e7 ] | simp (disch:=omega) only [dsB,ZcU H])
   exact ZnV J hA hB hs ht m (i + 1) _ _ _ (by omega) (H.put _) (ZeB hd hm1) (by rw [List.length_set]; exact hl) hz key
theorem ZqH (J : Al G T g) {A B : List Nat} {z y : Bool} {b : Nat} (hA : Dg A) (hB : Dg B) (hs : A.length < 17179869184) (ht : B.length≤A.length) : ∀ (m i : Nat) (h : Heap) (l : List Nat) (c : Nat),
  m + i = A.length→Holds h b l→Dg l→l.length = A.length→c≤1→val (l.take i) + val (B.take i) = val (A.take i) + 4294967296 ^ i * c →
  Post (evL G T ZiN [(0,D z A),(1,D y B),(5,.own b 0 A.length 1),(6,.int .u32 (c : Int)),(13,.int .i64 ((A.length : Nat) : Int)),(14,.int .i64 (i : Int))] h) fun r =>
   ∃ e h' l' c',r = (.exit 0,(0,D z A) :: (1,D y B) :: (5,.own b 0 A.length 1) :: (6,.int .u32 ((c' : Nat) : Int)) :: e,h')∧Holds h' b l'∧Dg l'∧l'.length = A.length∧c'≤1∧val l' + val B = val A + 4294967296 ^ A.length * c'
 | 0,i,h,l,c,hm,H,hd,hl,hc,he => by
  rw [Zae G T (c:=ZiN) rfl]
  have h1 : ¬ (i : Int) < (A.length : Int):=by omega
  repeat (first | simp only [seval,evB,ZiM,h1] | simp (disch:=omega) only [dsB])
  obtain rfl : i = A.length:=by omega
  rw [List.take_length,List.take_of_length_le ht,List.take_of_length_le (by omega)] at he
  exact Post.some ⟨_,_,_,_,rfl,H,hd,hl,hc,he⟩
 | m + 1,i,h,l,c,hm,H,hd,hl,hc,he => by
  rw [Zae G T (c:=ZiN) rfl]
  have h1 : (i : Int) < (A.length : Int):=by omega
  have e7 : (i : Int) + 1 = ((i + 1 : Nat) : Int):=by omega
  have hx:=hA.dg i
  have hy:=hB.dg i
  have hil : i < l.length:=by omega
  obtain ⟨d,q,hdq,hd1,hq⟩ : ∃ d q,d + dg B i + c = dg A i + 4294967296 * q∧d < 4294967296∧q≤1:=by
   by_cases hlt : dg A i < dg B i + c
   ·exact ⟨dg A i + 4294967296 - (dg B i + c),1,by omega,by omega,by omega⟩
   ·exact ⟨dg A i - (dg B i + c),0,by omega,by omega,by omega⟩
  have hb:=ZjI J (x:=dg A i) (y:=dg B i) (w:=c) (d:=d) (z:=q) hx hy hc hd1 hq hdq
  have key : val ((l.set i d).take (i + 1)) + val (B.take (i + 1)) = val (A.take (i + 1)) + 4294967296 ^ (i + 1) * q:=by
   rw [Zjo hil,Zad,Zad,Nat.pow_succ,Nat.mul_assoc]
   have h2 : 4294967296 ^ i * d + 4294967296 ^ i * dg B i + 4294967296 ^ i * c = 4294967296 ^ i * dg A i + 4294967296 ^ i * (4294967296 * q):=by
    rw [← Nat.mul_add,← Nat.mul_add,← Nat.mul_add,hdq]
   omega
  by_cases h2 : (i : Int) < (B.length : Int)
  ·repeat (first | simp only [seval,evB,ZiM,h1,h2,hb,e7 ] | simp (disch:=omega) only [dsB,ZcU H])
   exact ZqH J hA hB hs ht m (i + 1) _ _ _ (by omega) (H.put _) (ZeB hd hd1) (by rw [List.length_set]; exact hl) hq key
  ·have hg : dg B i = 0:=ZkW (by omega)
   rw [hg,cast0] at hb
   repeat (first | simp only [seval,evB,ZiM,h1,h2,hb,e7 ] | simp (disch:=omega) only [dsB,ZcU H])
   exact ZqH J hA hB hs ht m (i + 1) _ _ _ (by omega) (H.put _) (ZeB hd hd1) (by rw [List.length_set]; exact hl) hq key
theorem ZlN (J : Al G T g) {z : Bool} {l : List Nat} (h : l.length≤4096) : run G T 117 [D z l] = some (.tup [D z l,.int .i64 0]):=by
 rw [Zab G T J.A.ZlN]
 have h1 : ¬ (4096 : Int) < (l.length : Int):=by omega
 repeat (first | simp only [seval,evB,Zkv,h1] | simp (disch:=omega) only [dsB])
theorem Zvs (J : Al G T g) {z y : Bool} {a b : Nat} (ha : (dl a).length < 17179869184) (hab : b≤a) : ∃ z',run G T 116 [D z (dl a),D y (dl b)] = some (D z' (dl (a - b))):=by
 have hlen : (dl b).length≤(dl a).length:=by
  rw [Zcl]; exact Nat.lt_of_le_of_lt hab (Zcl.1 (Nat.le_refl _))
 obtain ⟨_,hr,e,h',l',c',rfl,H,hd,hl,hc,hv⟩:=ZqH (G:=G) (T:=T) (z:=z) (y:=y) (b:=Heap.nil.b.length) J (Zao a) (Zao b) ha hlen (dl a).length 0 (new .nil (List.replicate (dl a).length 0)) _ 0 (by omega) (ZbA FreH.nil _) (ZjF _) (by rw [List.length_replicate]) (by omega) (by simp [val])
 rw [cast0] at hr
 rw [ZaE,ZaE] at hv
 have hlt:=ZfN hd
 have hc0 : c' = 0:=by
  rcases Nat.eq_zero_or_pos c' with q | q
  ·exact q
  ·have : c' = 1:=by omega
   rw [this,Nat.mul_one,← hl] at hv; omega
 rw [hc0,Nat.mul_zero,Nat.add_zero] at hv
 have hv2 : val l' = a - b:=by omega
 have hsn:=Zch H (n:=(dl a).length) (by omega)
 rw [← hl,List.take_length] at hsn
 obtain ⟨z',hz⟩:=Zcg J (z:=false) hd (by omega)
 rw [hl] at hsn
 refine ⟨z',?_⟩
 rw [Zab G T J.A.Zvs,← hv2]
 repeat (first | simp only [seval,evB,ZnL,hr,hsn,hz] | simp (disch:=omega) only [dsB])
theorem ZsN (J : Al G T g) {z y : Bool} {a b : Nat} (ha : mayL (dl a) = true) (hb : mayL (dl b) = true) (hab : b≤a) : ∃ z',run G T 103 [D z (dl a),D y (dl b)] = some (.tup [D z' (dl (a - b)),.int .i64 0]):=by
 have la:=(ZaO.1 ha).1
 have lb:=(ZaO.1 hb).1
 have h1:=ZlM (G:=G) J (z:=z) (y:=y) (a:=dl a) (b:=dl b)
 rw [ha,hb,Bool.and_self] at h1
 have h2:=Zno (G:=G) J (z:=z) (y:=y) (a:=a) (b:=b) (by omega) (by omega)
 have h3 : ¬ cmpN a b < 0:=by rw [ZdK]; omega
 obtain ⟨z',h4⟩:=Zvs J (z:=z) (y:=y) (a:=a) (b:=b) (by omega) hab
 refine ⟨z',?_⟩
 rw [Zab G T J.A.ZsN]
 repeat' (first | simp only [seval,exC,ZnI,h1,h2,h3,h4] | simp (disch:=omega) only [dxB])
theorem ZqJ (J : Al G T g) {z y : Bool} {a b : Nat} (ha : mayL (dl a) = true) (hb : mayL (dl b) = true) : run G T 104 [D z (dl a),D y (dl b)] = some (.tup [.int .i64 (cmpN a b),.int .i64 0]):=by
 have la:=(ZaO.1 ha).1
 have lb:=(ZaO.1 hb).1
 have h1:=ZlM (G:=G) J (z:=z) (y:=y) (a:=dl a) (b:=dl b)
 rw [ha,hb,Bool.and_self] at h1
 have h2:=Zno (G:=G) J (z:=z) (y:=y) (a:=a) (b:=b) (by omega) (by omega)
 rw [Zab G T J.A.ZqJ]
 repeat' (first | simp only [seval,exC,ZnG,h1,h2] | simp (disch:=omega) only [dxB])
theorem Zvq (J : Al G T g) {z y : Bool} {a b : Nat} (ha : mayL (dl a) = true) (hb : mayL (dl b) = true) (hab : (dl b).length≤(dl a).length) (hs : (dl (a + b)).length≤4096) : ∃ z',run G T 105 [D z (dl a),D y (dl b)] = some (.tup [D z' (dl (a + b)),.int .i64 0]):=by
 have la:=(ZaO.1 ha).1
 have lb:=(ZaO.1 hb).1
 have h1:=ZlM (G:=G) J (z:=z) (y:=y) (a:=dl a) (b:=dl b)
 rw [ha,hb,Bool.and_self] at h1
 have h2 : ¬ ((dl a).length : Int) < ((dl b).length : Int):=by omega
 obtain ⟨_,hr,e,h',l',c',rfl,H,hd,hl,hc,hv⟩:=ZnV (G:=G) (T:=T) (z:=z) (y:=y) (b:=1) J (Zao a) (Zao b) (by omega) hab (dl a).length 0 (new ⟨[⟨[D z (dl a),D y (dl b)],false⟩],fz1 (AV.bool true) [0]⟩ (List.replicate ((dl a).length + 1) 0)) _ 0 (by omega) (ZbA (h:=⟨[⟨[D z (dl a),D y (dl b)],false⟩],fz1 (AV.bool true) [0]⟩) (fun _ h => absurd h List.not_mem_nil) _) (ZjF _) (by rw [List.length_replicate]) (by omega) (by simp [val])
 rw [cast0] at hr
 rw [ZaE,ZaE] at hv
 have hil : (dl a).length < l'.length:=by omega
 have hvs:=Zjo (v:=c') hil
 rw [hv,List.take_of_length_le (by rw [List.length_set]; omega)] at hvs
 have H2:=H.put (l'.set (dl a).length c')
 have hd2 : Dg (l'.set (dl a).length c'):=ZeB hd (by omega)
 have hl2 : (l'.set (dl a).length c').length = (dl a).length + 1:=by rw [List.length_set]; exact hl
 have hsn:=Zch H2 (n:=(dl a).length + 1) (by omega)
 rw [← hl2,List.take_length] at hsn
 obtain ⟨z',hz⟩:=Zcg J (z:=false) hd2 (by omega)
 rw [hl2] at hsn
 rw [hvs] at hz
 have hbd:=ZlN J (z:=z') hs
 have e8 : ((dl a).length : Int) + 1 = (((dl a).length + 1 : Nat) : Int):=by omega
 refine ⟨z',?_⟩
 rw [Zab G T J.A.ZsL]
 repeat' (first | simp only [seval,exC,Zlq,h1,h2,e8,hr,hsn,hz,hbd ] | simp (disch:=omega) only [dxB,ZcU H])
theorem ZsL (J : Al G T g) {z y : Bool} {a b : Nat} (ha : mayL (dl a) = true) (hb : mayL (dl b) = true) (hs : (dl (a + b)).length≤4096) : ∃ z',run G T 105 [D z (dl a),D y (dl b)] = some (.tup [D z' (dl (a + b)),.int .i64 0]):=by
 have la:=(ZaO.1 ha).1
 have lb:=(ZaO.1 hb).1
 by_cases hab : (dl b).length≤(dl a).length
 ·exact Zvq J ha hb hab hs
 have h1:=ZlM (G:=G) J (z:=z) (y:=y) (a:=dl a) (b:=dl b)
 rw [ha,hb,Bool.and_self] at h1
 have h2 : ((dl a).length : Int) < ((dl b).length : Int):=by omega
 obtain ⟨_,hr,e,h',l',c',rfl,H,hd,hl,hc,hv⟩:=ZnV (G:=G) (T:=T) (z:=y) (y:=z) (b:=1) J (Zao b) (Zao a) (by omega) (by omega) (dl b).length 0 (new ⟨[⟨[D z (dl a),D y (dl b)],false⟩],fz1 (AV.bool true) [0]⟩ (List.replicate ((dl b).length + 1) 0)) _ 0 (by omega) (ZbA (h:=⟨[⟨[D z (dl a),D y (dl b)],false⟩],fz1 (AV.bool true) [0]⟩) (fun _ h => absurd h List.not_mem_nil) _) (ZjF _) (by rw [List.length_replicate]) (by omega) (by simp [val])
 rw [cast0] at hr
 rw [ZaE,ZaE,Nat.add_comm b a] at hv
 have hil : (dl b).length < l'.length:=by omega
 have hvs:=Zjo (v:=c') hil
 rw [hv,List.take_of_length_le (by rw [List.length_set]; omega)] at hvs
 have H2:=H.put (l'.set (dl b).length c')
 have hd2 : Dg (l'.set (dl b).length c'):=ZeB hd (by omega)
 have hl2 : (l'.set (dl b).length c').length = (dl b).length + 1:=by rw [List.length_set]; exact hl
 have hsn:=Zch H2 (n:=(dl b).length + 1) (by omega)
 rw [← hl2,List.take_length] at hsn
 obtain ⟨z',hz⟩:=Zcg J (z:=false) hd2 (by omega)
 rw [hl2] at hsn
 rw [hvs] at hz
 have hbd:=ZlN J (z:=z') hs
 have e8 : ((dl b).length : Int) + 1 = (((dl b).length + 1 : Nat) : Int):=by omega
 refine ⟨z',?_⟩
 rw [Zab G T J.A.ZsL]
 repeat' (first | simp only [seval,exC,Zlq,h1,h2,e8,hr,hsn,hz,hbd ] | simp (disch:=omega) only [dxB,ZcU H])
theorem Zyr {x y a b : Nat} (hx : blen x≤a) (hy : blen y≤b) : blen (x * y)≤a + b:=by
 refine Zaf.2 ?_
 rw [Nat.pow_add]
 exact Nat.mul_lt_mul_of_lt_of_lt (Zaf.1 hx) (Zaf.1 hy)
theorem Zvr (J : Al G T g) {z y : Bool} {a b : Nat} (ha : mayL (dl a) = true) (hb : mayL (dl b) = true) (hs : (dl a).length + (dl b).length≤4096) : ∃ z',run G T 197 [D z (dl a),D y (dl b)] = some (.tup [D z' (dl (a * b)),.int .i64 0]):=by
 have h1:=ZlM (G:=G) J (z:=z) (y:=y) (a:=dl a) (b:=dl b)
 rw [ha,hb,Bool.and_self] at h1
 obtain ⟨z',h2⟩:=ZsP J (z:=z) (y:=y) (a:=a) (b:=b) (by omega)
 have hl : (dl (a * b)).length≤4096:=by
  have e1:=Zcl.1 (Nat.le_refl (dl a).length)
  have e2:=Zcl.1 (Nat.le_refl (dl b).length)
  have : (dl (a * b)).length≤(dl a).length + (dl b).length:=by
   rw [Zcl,Nat.pow_add]; exact Nat.mul_lt_mul_of_lt_of_lt e1 e2
  omega
 have h3:=ZlN J (z:=z') hl
 have c1 : ¬ (4096 : Int) < ((dl a).length : Int) + ((dl b).length : Int) - 1:=by omega
 refine ⟨z',?_⟩
 rw [Zab G T J.U.Zvr]
 by_cases k1 : (0 : Int) < ((dl a).length : Int)
 ·by_cases k2 : (0 : Int) < ((dl b).length : Int)
  ·repeat' (first | simp only [seval,exC,ZjN,h1,h2,h3,c1,k1,k2] | simp (disch:=omega) only [dxB])
  ·repeat' (first | simp only [seval,exC,ZjN,h1,h2,h3,c1,k1,k2] | simp (disch:=omega) only [dxB])
 ·repeat' (first | simp only [seval,exC,ZjN,h1,h2,h3,c1,k1] | simp (disch:=omega) only [dxB])
theorem Zmx (J : Al G T g) {n z : Bool} {l : List Nat} {e : Int} (hl : l.length < 549755813888) : ∃ z',run G T 205 [A3 n (D z l) e] = some (A3 n (D z' l) e):=by
 apply exP
 rw [Zab G T J.U.Zmx]
 cases l with
 | nil =>
  simp only [A3] at *
  repeat' (first | simp only [seval,exC,ZjL,ZvX] | simp (disch:=omega) only [dxB])
  exact ⟨_,rfl,true,rfl⟩
 | cons a l =>
  have ha : appV ⟨[⟨[.bool n,D z (a :: l),.int .i64 e],false⟩,⟨[.bool false,.nil,.int .i64 0],false⟩],[]⟩ 1 4 .nil (D z (a :: l)) =
    some (.own 2 0 (a :: l).length 1,⟨[⟨[.bool n,D z (a :: l),.int .i64 e],false⟩,⟨[.bool false,.nil,.int .i64 0],false⟩,⟨cells (a :: l),false⟩],[]⟩) :=
   Zyl (h:=⟨[⟨[.bool n,D z (a :: l),.int .i64 e],false⟩,⟨[.bool false,.nil,.int .i64 0],false⟩],[]⟩) (z:=z) (l:=a :: l) (by simp) hl
  simp only [A3] at *
  have hsub : sub (cells (a :: l)) 0 (l.length + 1) = some (cells (a :: l)):=ZAq (a :: l)
  repeat' (first | simp only [seval,exC,ZjL,ha,hsub,Zxd] | simp (disch:=omega) only [dxB])
  exact ⟨_,rfl,false,rfl⟩
theorem Zni (J : Al G T g) {n z s : Bool} {l : List Nat} {e : Int} (hl : l.length < 549755813888) : ∃ z',run G T 198 [A3 n (D z l) e,.bool s] = some (A3 (s && decide (0 < l.length)) (D z' l) e):=by
 obtain ⟨z',h1⟩:=Zmx J (n:=n) (z:=z) (l:=l) (e:=e) hl
 refine ⟨z',?_⟩
 rw [Zab G T J.U.Zni]
 have e1 : decide ((0 : Int) < (l.length : Int)) = decide (0 < l.length):=by congr 1; apply propext; omega
 simp only [A3] at *
 cases s <;> (repeat' (first | simp only [seval,exC,Zhl,h1,e1] | simp (disch:=omega) only [dxB]); all_goals try rfl)
theorem ZpC (J : Al G T g) {z : Bool} {d : Dy} (hd : mayD d.n (dl d.m) d.e = true) : ∃ z',run G T 184 [DyA z d] = some (.tup [DyA z' (negD d),.int .i64 0]):=by
 obtain ⟨f1,f2,f3,f4,f5⟩:=Zbx hd
 have hl:=(ZaO.1 f1).1
 have h1:=Zda J d.n z (Zao d.m) d.e
 rw [hd] at h1
 obtain ⟨z',h2⟩:=Zni J (n:=d.n) (z:=z) (s:=!d.n) (l:=dl d.m) (e:=d.e) (by omega)
 refine ⟨z',?_⟩
 have hv : A3 (!d.n && decide (0 < (dl d.m).length)) (D z' (dl d.m)) d.e = DyA z' (negD d):=by
  by_cases h0 : d.m = 0
  ·have hz:=f2 (Zan.2 h0)
   unfold negD
   rw [if_pos h0,DyA,hz.1,h0,Zai]; rfl
  ·rw [ZHL h0]
   have : 0 < (dl d.m).length:=Nat.pos_of_ne_zero (fun hc => h0 (Zan.1 hc))
   rw [decide_eq_true this,Bool.and_true]; rfl
 rw [hv] at h2
 rw [Zab G T J.U.ZpC]
 obtain ⟨n,m,e⟩:=d
 simp only [DyA,A3] at *
 cases n <;> (simp only [Bool.not_true,Bool.not_false] at h2; repeat' (first | simp only [seval,exC,Zmk,h1,h2] | simp (disch:=omega) only [dxB]))
def joinD (p : Bool) (x : Nat) (q : Bool) (y : Nat) (e : Int) : Dy:=if p = q then mkD p (x + y) e else if y≤x then mkD p (x - y) e else mkD q (y - x) e
theorem ZrS {m : Nat} {e : Int} (hb : blen m≤131072) (he : -16000000 < e∧e < 16000000) : m = 0∨(-16777216≤e + (tz m : Int)∧e + (tz m : Int)≤16777216):=by
 by_cases h0 : m = 0
 ·exact Or.inl h0
 ·right; have:=Zhi h0; omega
theorem ZAY {x y : Nat} {K : Nat} (hx : blen x≤K) (hy : blen y≤K) : blen (x + y)≤K + 1:=by
 refine Zaf.2 ?_
 have h1:=Zaf.1 hx
 have h2:=Zaf.1 hy
 rw [Nat.pow_succ]; omega
theorem ZjV (J : Al G T g) {p q z y : Bool} {x w : Nat} {e : Int} (hx : blen x≤131071) (hw : blen w≤131071) (he : -16000000 < e∧e < 16000000) :
  ∃ z',run G T 208 [.bool p,D z (dl x),.bool q,D y (dl w),.int .i64 e] = some (.tup [DyA z' (joinD p x q w e),.int .i64 0]):=by
 have mx : mayL (dl x) = true:=Zak (by omega)
 have mw : mayL (dl w) = true:=Zak (by omega)
 have hxw:=ZAY hx hw
 by_cases h1 : p = q
 ·have hl:=Zaa (x + w)
  obtain ⟨z1,a1⟩:=ZsL J (z:=z) (y:=y) (a:=x) (b:=w) mx mw (by omega)
  obtain ⟨z2,a2⟩:=Zcm J (n:=p) (z:=z1) (a:=x + w) (e:=e) (Zak (by omega)) (ZrS (by omega) he) (by omega)
  refine ⟨z2,?_⟩
  unfold joinD
  rw [if_pos h1,Zab G T J.U.ZjV]
  simp only [DyA,A3] at *
  subst h1
  cases p <;> repeat' (first | simp only [seval,exC,ZfR,a1,a2] | simp (disch:=omega) only [dxB])
 ·have c0:=ZqJ J (z:=z) (y:=y) (a:=x) (b:=w) mx mw
  by_cases h2 : w≤x
  ·have hb:=Zap (Nat.sub_le x w)
   have c1 : ¬ cmpN x w < 0:=by rw [ZdK]; omega
   obtain ⟨z1,a1⟩:=ZsN J (z:=z) (y:=y) (a:=x) (b:=w) mx mw h2
   obtain ⟨z2,a2⟩:=Zcm J (n:=p) (z:=z1) (a:=x - w) (e:=e) (Zak (by omega)) (ZrS (by omega) he) (by omega)
   refine ⟨z2,?_⟩
   unfold joinD
   rw [if_neg h1,if_pos h2,Zab G T J.U.ZjV]
   simp only [DyA,A3] at *
   cases p <;> cases q <;> first | (exact absurd rfl h1) | (repeat' (first | simp only [seval,exC,ZfR,c0,c1,a1,a2] | simp (disch:=omega) only [dxB]))
  ·have hb:=Zap (Nat.sub_le w x)
   have c1 : cmpN x w < 0:=by rw [ZdK]; omega
   obtain ⟨z1,a1⟩:=ZsN J (z:=y) (y:=z) (a:=w) (b:=x) mw mx (by omega)
   obtain ⟨z2,a2⟩:=Zcm J (n:=q) (z:=z1) (a:=w - x) (e:=e) (Zak (by omega)) (ZrS (by omega) he) (by omega)
   refine ⟨z2,?_⟩
   unfold joinD
   rw [if_neg h1,if_neg h2,Zab G T J.U.ZjV]
   simp only [DyA,A3] at *
   cases p <;> cases q <;> first | (exact absurd rfl h1) | (repeat' (first | simp only [seval,exC,ZfR,c0,c1,a1,a2] | simp (disch:=omega) only [dxB]))
theorem Zua {a b : Dy} (ha : a.m≠0) (hb : b.m≠0) (he : b.e≤a.e) : joinD a.n (a.m * 2 ^ (a.e - b.e).toNat) b.n b.m b.e = addD a b:=by
 unfold joinD addD
 rw [if_neg ha,if_neg hb,Int.min_eq_right he,show (b.e - b.e).toNat = 0 by omega,Nat.pow_zero,Nat.mul_one]
theorem ZtO (J : Al G T g) {z y : Bool} {a b : Dy} (ha : Bd a 16384) (hb : Bd b 16384) (na : a.m≠0) (nb : b.m≠0) (he : b.e≤a.e) :
  ∃ z',run G T 203 [DyA z a,DyA y b] = some (.tup [DyA z' (addD a b),.int .i64 0]):=by
 obtain ⟨a1,a2,a3⟩:=ha
 obtain ⟨b1,b2,b3⟩:=hb
 have ma : mayL (dl a.m) = true:=Zak (by omega)
 have l1:=ZfG J (z:=z) ma
 obtain ⟨z1,s1⟩:=Zct J (z:=z) (a:=a.m) (n:=(a.e - b.e).toNat) ma (Or.inr (by omega)) (by omega)
 rw [show (((a.e - b.e).toNat : Nat) : Int) = a.e - b.e by omega] at s1
 have hbl:=Zav na (a.e - b.e).toNat
 obtain ⟨z2,j1⟩:=ZjV J (p:=a.n) (q:=b.n) (z:=z1) (y:=y) (x:=a.m * 2 ^ (a.e - b.e).toNat) (w:=b.m) (e:=b.e) (by omega) (by omega) (by omega)
 rw [Zua na nb he] at j1
 have c1 : ¬ ((dl a.m).length : Int) = 0:=fun hc => na (Zan.1 (by omega))
 have c2 : ¬ ((dl b.m).length : Int) = 0:=fun hc => nb (Zan.1 (by omega))
 have c3 : ¬ a.e < b.e:=by omega
 have w1 : IntKind.i64.wrap (a.e - b.e) = a.e - b.e:=Zac (by omega)
 have w2 : IntKind.i64.wrap (a.e - b.e + (blen a.m : Int)) = a.e - b.e + (blen a.m : Int):=Zac (by omega)
 have c4 : ¬ (131073 : Int) < a.e - b.e + (blen a.m : Int):=by omega
 have c5 : ¬ (131072 : Int) < a.e - b.e + (blen a.m : Int):=by omega
 refine ⟨z2,?_⟩
 rw [Zab G T J.U.Zmv]
 generalize addD a b = d at *
 obtain ⟨n,m,e⟩:=a
 obtain ⟨n',m',e'⟩:=b
 clear hbl a1 a2 a3 b1 b2 b3
 simp only [DyA,A3] at *
 repeat' (first | simp only [seval,exC,ZfQ,c1,c2,c3,c4,c5,w1,w2,l1,s1,j1] | simp (disch:=omega) only [dxB])
theorem Zmv (J : Al G T g) {z y : Bool} {a b : Dy} (ha : Bd a 16384) (hb : Bd b 16384) (za : Nz a) (zb : Nz b) :
  ∃ z',run G T 203 [DyA z a,DyA y b] = some (.tup [DyA z' (addD a b),.int .i64 0]):=by
 by_cases na : a.m = 0
 ·have hl:=Zaa b.m
  have hbl:=hb.bl
  obtain ⟨z1,h1⟩:=Zmx J (n:=b.n) (z:=y) (l:=dl b.m) (e:=b.e) (by omega)
  have c1 : ((dl a.m).length : Int) = 0:=by have:=Zan.2 na; omega
  refine ⟨z1,?_⟩
  rw [Zab G T J.U.Zmv]
  unfold addD
  rw [if_pos na]
  obtain ⟨n,m,e⟩:=a
  obtain ⟨n',m',e'⟩:=b
  simp only [DyA,A3] at *
  repeat' (first | simp only [seval,exC,ZfQ,c1,h1] | simp (disch:=omega) only [dxB])
 ·by_cases nb : b.m = 0
  ·have hl:=Zaa a.m
   have hbl:=ha.bl
   obtain ⟨z1,h1⟩:=Zmx J (n:=a.n) (z:=z) (l:=dl a.m) (e:=a.e) (by omega)
   have c1 : ¬ ((dl a.m).length : Int) = 0:=fun hc => na (Zan.1 (by omega))
   have c2 : ((dl b.m).length : Int) = 0:=by have:=Zan.2 nb; omega
   refine ⟨z1,?_⟩
   rw [Zab G T J.U.Zmv]
   unfold addD
   rw [if_neg na,if_pos nb]
   obtain ⟨n,m,e⟩:=a
   obtain ⟨n',m',e'⟩:=b
   simp only [DyA,A3] at *
   repeat' (first | simp only [seval,exC,ZfQ,c1,c2,h1] | simp (disch:=omega) only [dxB])
  ·by_cases he : b.e≤a.e
   ·exact ZtO J ha hb na nb he
   ·obtain ⟨a1,a2,a3⟩:=ha
    obtain ⟨b1,b2,b3⟩:=hb
    have mb : mayL (dl b.m) = true:=Zak (by omega)
    have l1:=ZfG J (z:=y) mb
    obtain ⟨z1,s1⟩:=Zct J (z:=y) (a:=b.m) (n:=(b.e - a.e).toNat) mb (Or.inr (by omega)) (by omega)
    rw [show (((b.e - a.e).toNat : Nat) : Int) = b.e - a.e by omega] at s1
    have hbl:=Zav nb (b.e - a.e).toNat
    obtain ⟨z2,j1⟩:=ZjV J (p:=b.n) (q:=a.n) (z:=z1) (y:=z) (x:=b.m * 2 ^ (b.e - a.e).toNat) (w:=a.m) (e:=a.e) (by omega) (by omega) (by omega)
    rw [Zua nb na (by omega),ZtB zb za] at j1
    have c1 : ¬ ((dl a.m).length : Int) = 0:=fun hc => na (Zan.1 (by omega))
    have c2 : ¬ ((dl b.m).length : Int) = 0:=fun hc => nb (Zan.1 (by omega))
    have c3 : a.e < b.e:=by omega
    have w1 : IntKind.i64.wrap (b.e - a.e) = b.e - a.e:=Zac (by omega)
    have w2 : IntKind.i64.wrap (b.e - a.e + (blen b.m : Int)) = b.e - a.e + (blen b.m : Int):=Zac (by omega)
    have c4 : ¬ (131073 : Int) < b.e - a.e + (blen b.m : Int):=by omega
    have c5 : ¬ (131072 : Int) < b.e - a.e + (blen b.m : Int):=by omega
    refine ⟨z2,?_⟩
    rw [Zab G T J.U.Zmv]
    generalize addD a b = d at *
    obtain ⟨n,m,e⟩:=a
    obtain ⟨n',m',e'⟩:=b
    clear hbl a1 a2 a3 b1 b2 b3
    simp only [DyA,A3] at *
    repeat' (first | simp only [seval,exC,ZfQ,c1,c2,c3,c4,c5,w1,w2,l1,s1,j1] | simp (disch:=omega) only [dxB])
theorem Zmt (J : Al G T g) {z y : Bool} {a b : Dy} (ha : Bd a 16384) (hb : Bd b 16384) (da : mayD a.n (dl a.m) a.e = true) (db : mayD b.n (dl b.m) b.e = true) :
  ∃ z',run G T 195 [DyA z a,DyA y b] = some (.tup [DyA z' (addD a b),.int .i64 0]):=by
 have h1:=ZjU J (n:=a.n) (z:=z) (n':=b.n) (z':=y) (Zao a.m) (Zao b.m) (e:=a.e) (e':=b.e)
 rw [da,db,Bool.and_self] at h1
 obtain ⟨z',h2⟩:=Zmv J (z:=z) (y:=y) ha hb (Zzu da) (Zzu db)
 refine ⟨z',?_⟩
 rw [Zab G T J.U.Zmt]
 generalize addD a b = d at *
 obtain ⟨n,m,e⟩:=a
 obtain ⟨n',m',e'⟩:=b
 simp only [DyA,A3] at *
 repeat' (first | simp only [seval,exC,Zmi,h1,h2] | simp (disch:=omega) only [dxB])
theorem Zmu (J : Al G T g) {z y : Bool} {a b : Dy} (ha : Bd a 16384) (hb : Bd b 16384) (da : mayD a.n (dl a.m) a.e = true) (db : mayD b.n (dl b.m) b.e = true) :
  ∃ z',run G T 182 [DyA z a,DyA y b] = some (.tup [DyA z' (mulD a b),.int .i64 0]):=by
 have h1:=ZjU J (n:=a.n) (z:=z) (n':=b.n) (z':=y) (Zao a.m) (Zao b.m) (e:=a.e) (e':=b.e)
 rw [da,db,Bool.and_self] at h1
 obtain ⟨a1,a2,a3⟩:=ha
 obtain ⟨b1,b2,b3⟩:=hb
 have hl1:=Zaa a.m
 have hl2:=Zaa b.m
 obtain ⟨z1,h2⟩:=Zvr J (z:=z) (y:=y) (a:=a.m) (b:=b.m) (Zak (by omega)) (Zak (by omega)) (by omega)
 have hb : blen (a.m * b.m)≤32768:=by have:=Zyr a1 b1; omega
 obtain ⟨z2,h3⟩:=Zcm J (n:=a.n != b.n) (z:=z1) (a:=a.m * b.m) (e:=a.e + b.e) (Zak (by omega)) (ZrS (by omega) (by omega)) (by omega)
 have w1 : IntKind.i64.wrap (a.e + b.e) = a.e + b.e:=Zac (by omega)
 refine ⟨z2,?_⟩
 rw [Zab G T J.U.Zmu]
 unfold mulD
 clear hb
 obtain ⟨n,m,e⟩:=a
 obtain ⟨n',m',e'⟩:=b
 have hne : (n != n') = !decide (n = n'):=by cases n <;> cases n' <;> rfl
 simp only at *
 rw [hne] at h3 ⊢
 simp only [DyA,A3] at *
 repeat' (first | simp only [seval,exC,Zmj,h1,h2,w1,h3] | simp (disch:=omega) only [dxB])
theorem ZAP {w k : Nat} (hk : k < 64) (hw : w < 2 ^ (k + 1)) : w &&& (2 ^ 64 - (2 ^ k + 1)) = w % 2 ^ k:=by
 apply Nat.eq_of_testBit_eq
 intro i
 have hp : (2 : Nat) ^ k < 2 ^ 64:=Nat.pow_lt_pow_right (by decide) hk
 rw [Nat.testBit_and,Nat.testBit_mod_two_pow,Nat.testBit_two_pow_sub_succ hp,Nat.testBit_two_pow]
 by_cases h1 : i < k
 ·rw [decide_eq_true h1,decide_eq_true (show i < 64 by omega),decide_eq_false (show ¬ k = i by omega)]; simp
 ·rw [decide_eq_false h1]
  by_cases h2 : i = k
  ·rw [decide_eq_true h2.symm]; simp
  ·have : w.testBit i = false:=Nat.testBit_lt_two_pow (Nat.lt_of_lt_of_le hw (Nat.pow_le_pow_right (by decide) (by omega)))
   rw [this]; simp
theorem andn64 {w k : Nat} (hk : k < 64) (hw : w < 2 ^ (k + 1)) : andNotI .u64 (w : Int) ((2 ^ k : Nat) : Int) = ((w % 2 ^ k : Nat) : Int):=by
 have hp : (2 : Nat) ^ k < 2 ^ 64:=Nat.pow_lt_pow_right (by decide) hk
 have hw2 : w < 2 ^ 64:=Nat.lt_of_lt_of_le hw (Nat.pow_le_pow_right (by decide) (by omega))
 have hlt : w % 2 ^ k < 2 ^ k:=Nat.mod_lt _ (Nat.two_pow_pos k)
 rw [ZrL]
 show IntKind.u64.wrap ((BitVec.ofInt 64 (w : Int) &&& ~~~BitVec.ofInt 64 ((2 ^ k : Nat) : Int)).toNat : Int) = _
 rw [show BitVec.ofInt 64 (w : Int) = BitVec.ofNat 64 w from rfl,show BitVec.ofInt 64 ((2 ^ k : Nat) : Int) = BitVec.ofNat 64 (2 ^ k) from rfl,BitVec.toNat_and,BitVec.toNat_not,BitVec.toNat_ofNat,BitVec.toNat_ofNat,Nat.mod_eq_of_lt hw2,Nat.mod_eq_of_lt hp,
  show 2 ^ 64 - 1 - 2 ^ k = 2 ^ 64 - (2 ^ k + 1) by omega,ZAP hk hw,Zjq]
 omega
theorem ZDc {w : Nat} (h : w < 4294967296) : andNotI .u64 (w : Int) 2147483648 = ((w % 2147483648 : Nat) : Int):=andn64 (k:=31) (by decide) h
theorem ZDb {w : Nat} (h : w < 18446744073709551616) : andNotI .u64 (w : Int) 9223372036854775808 = ((w % 9223372036854775808 : Nat) : Int):=andn64 (k:=63) (by decide) h
theorem Zxw {w k : Nat} (hw : w < 2 ^ k) : w &&& 2 ^ k = 0:=by
 apply Nat.eq_of_testBit_eq
 intro i
 rw [Nat.testBit_and,Nat.testBit_two_pow,Nat.zero_testBit]
 by_cases h : k = i
 ·subst h; rw [Nat.testBit_lt_two_pow hw]; rfl
 ·rw [decide_eq_false h,Bool.and_false]
theorem Zxv {w k : Nat} (h1 : 2 ^ k≤w) (hw : w < 2 ^ (k + 1)) : w &&& 2 ^ k = 2 ^ k:=by
 apply Nat.eq_of_testBit_eq
 intro i
 rw [Nat.testBit_and,Nat.testBit_two_pow]
 rw [Nat.pow_succ] at hw
 by_cases h : k = i
 ·subst h
  have : w / 2 ^ k = 1:=Nat.div_eq_of_lt_le (by omega) (by omega)
  rw [Nat.testBit_eq_decide_div_mod_eq,this]; rfl
 ·rw [decide_eq_false h,Bool.and_false]
theorem Zyj {w k : Nat} (hk : k < 64) (hw : w < 2 ^ (k + 1)) : andI .u64 (w : Int) ((2 ^ k : Nat) : Int) = if 2 ^ k≤w then ((2 ^ k : Nat) : Int) else 0:=by
 have hp : (2 : Nat) ^ k < 2 ^ 64:=Nat.pow_lt_pow_right (by decide) hk
 have hw2 : w < 2 ^ 64:=Nat.lt_of_lt_of_le hw (Nat.pow_le_pow_right (by decide) (by omega))
 rw [and64 (by omega) (by omega)]
 by_cases h : 2 ^ k≤w
 ·rw [if_pos h,Zxv h hw]
 ·rw [if_neg h,Zxw (by omega)]; rfl
theorem ZJd {w : Nat} (h : w < 4294967296) : andI .u64 (w : Int) 2147483648 = if 2147483648≤w then 2147483648 else 0:=Zyj (k:=31) (by decide) h
theorem ZJc {w : Nat} (h : w < 18446744073709551616) : andI .u64 (w : Int) 9223372036854775808 = if 9223372036854775808≤w then 9223372036854775808 else 0:=Zyj (k:=63) (by decide) h
theorem ZGx {w : Nat} (h : w < 18446744073709551616) : andI .u64 (w : Int) 8388607 = ((w % 8388608 : Nat) : Int):=Zsl (j:=23) h (by decide)
theorem ZGw {w : Nat} (h : w < 18446744073709551616) : andI .u64 (w : Int) 4503599627370495 = ((w % 4503599627370496 : Nat) : Int):=Zsl (j:=52) h (by decide)
theorem or_s : orI .u64 2147483648 2147483647 = 4294967295:=by rw [ZqO]; rfl
theorem or_d : orI .u64 9223372036854775808 9223372036854775807 = 18446744073709551615:=by rw [ZqO]; rfl
theorem ZKj : orI .u64 2139095040 4194304 = 2143289344:=by rw [ZqO]; rfl
theorem ZKi : orI .u64 9218868437227405312 2251799813685248 = 9221120237041090560:=by rw [ZqO]; rfl
theorem Ztr (e : Env) (h : Heap) : evL G T ZcP e h = kS G T (evL G T ZbY (keepE [4,6,18,19,20] e) h) ZcP:=Zae G T rfl e h
theorem ia11 (x : AV) (k : IntKind) : iaddrV 1 (.imm 1 [x]) (.int k 0) = some (.iptr [x] 0):=rfl
theorem rd11 (h : Mem) (x : AV) : rdAt G h 1 (.iptr [x] 0) = some [x]:=rfl
theorem ZhS (J : Al G T g) (F : Fm) {w : Nat} (hw : w < 18446744073709551616) : run G T 95 [.int .u8 F.u,.imm 1 [.int .u64 (w : Int)]] = some (.tup [shA F,.int .i64 (if w < 2 * F.sg then 0 else 6)]):=by
 rw [Zab G T J.D.word_open]
 have h1:=Zhd (G:=G) J F
 have wr : IntKind.i64.wrap 1 = 1:=rfl
 by_cases hk : w < 2 * F.sg
 ·rw [if_pos hk]
  cases F
  ·simp only [shA,Fm.u,Fm.fr,Fm.sg,Fm.most,Int.cast_ofNat_Int,Nat.reduceMul] at *
   have c1 : ¬ (4294967295 : Int) < (w : Int):=by omega
   repeat' (first | simp only [seval,exC,Zdv,h1,Ztr,ZbY,ia11,rd11,or_s,or_d,c1,wr] | simp (disch:=omega) only [dxB])
  ·simp only [shA,Fm.u,Fm.fr,Fm.sg,Fm.most,Int.cast_ofNat_Int,Nat.reduceMul] at *
   have c1 : ¬ (18446744073709551615 : Int) < (w : Int):=by omega
   repeat' (first | simp only [seval,exC,Zdv,h1,Ztr,ZbY,ia11,rd11,or_s,or_d,c1,wr] | simp (disch:=omega) only [dxB])
 ·rw [if_neg hk]
  cases F
  ·simp only [shA,Fm.u,Fm.fr,Fm.sg,Fm.most,Int.cast_ofNat_Int,Nat.reduceMul] at *
   have c1 : (4294967295 : Int) < (w : Int):=by omega
   repeat' (first | simp only [seval,exC,Zdv,h1,Ztr,ZbY,ia11,rd11,or_s,or_d,c1,wr] | simp (disch:=omega) only [dxB])
  ·simp only [Fm.sg] at hk; omega
theorem ZBb (F : Fm) (w : Nat) : (F.ex w = 0∧F.fc w = 0∧F.cls w = 1)∨(F.ex w = 0∧F.fc w≠0∧F.cls w = 2)∨(F.ex w≠0∧F.ex w < F.most∧F.cls w = 3)∨(F.ex w≠0∧¬ F.ex w < F.most∧F.fc w = 0∧F.cls w = 4)∨(F.ex w≠0∧¬ F.ex w < F.most∧F.fc w≠0∧F.cls w = 5):=by
 unfold Fm.cls
 generalize F.ex w = x
 generalize F.fc w = y
 repeat' split
 all_goals omega
theorem ZFe (F : Fm) (w : Nat) : (F.ng w = true∧F.sg≤w)∨(F.ng w = false∧w < F.sg):=by
 unfold Fm.ng
 by_cases h : F.sg≤w
 ·left; exact ⟨decide_eq_true h,h⟩
 ·right; exact ⟨decide_eq_false h,by omega⟩
theorem Zpk (J : Al G T g) (F : Fm) {w : Nat} (hw : w < 2 * F.sg) : run G T 201 [shA F,.int .u64 (w : Int)] = some (.int .u8 (F.cls w)):=by
 rw [Zab G T J.U.word_shape_class]
 obtain ⟨q1,q2,q3,q4⟩:=Zpj hw
 have hc:=ZBb F w
 have hlt : w % F.sg < F.sg:=Nat.mod_lt _ (by cases F <;> decide)
 clear q1
 generalize F.cls w = c at *
 generalize F.ex w = x at *
 generalize F.fc w = y at *
 cases F
 ·have h2:=ZDc (w:=w) hw
  have hi:=ZoF J .s
  simp only [shA,Fm.u,Fm.fr,Fm.sg,Fm.most,Int.cast_ofNat_Int,Nat.reducePow,Nat.reduceMul] at *
  generalize w % 2147483648 = s at *
  repeat' (first|simp (maxSteps:=9^7) only [seval,exC,ZbR,h2,hi]|simp (maxSteps:=9^7) (disch:=first|with_reducible assumption|omega) only [dxB]|(simp only [kdB];split)|(simp only [kvB];split))
  all_goals (refine ZmO ?_; omega)
 ·have h2:=ZDb (w:=w) hw
  have hi:=ZoF J .d
  simp only [shA,Fm.u,Fm.fr,Fm.sg,Fm.most,Int.cast_ofNat_Int,Nat.reducePow,Nat.reduceMul] at *
  generalize w % 9223372036854775808 = s at *
  repeat' (first|simp (maxSteps:=9^7) only [seval,exC,ZbR,h2,hi]|simp (maxSteps:=9^7) (disch:=first|with_reducible assumption|omega) only [dxB]|(simp only [kdB];split)|(simp only [kvB];split))
  all_goals (refine ZmO ?_; omega)
theorem Zse (J : Al G T g) (F : Fm) {w : Nat} (hw : w < 2 * F.sg) : run G T 200 [shA F,.int .u64 (w : Int)] = some (fldA (F.ng w) (F.ex w) (F.fc w)):=by
 rw [Zab G T J.U.word_shape_split]
 have hlt : w % F.sg < F.sg:=Nat.mod_lt _ (by cases F <;> decide)
 have hn:=ZFe F w
 have e2 : w % F.sg / 2 ^ F.fr = F.ex w:=rfl
 have e3 : w % F.sg % 2 ^ F.fr = F.fc w:=rfl
 have q4:=(Zpj hw).2.2.2
 generalize F.ng w = n at *
 generalize F.ex w = x at *
 generalize F.fc w = y at *
 cases F
 ·have h2:=ZDc (w:=w) hw
  have h4:=ZJd (w:=w) hw
  simp only [shA,Fm.u,Fm.fr,Fm.sg,Fm.most,fldA,Int.cast_ofNat_Int,Nat.reducePow] at *
  generalize w % 2147483648 = s at *
  have h5:=ZGx (w:=s) (by omega)
  rw [e3] at h5
  have w1 : (s : Int) / 8388608 = (x : Int):=by omega
  rcases hn with ⟨rfl,hn⟩ | ⟨rfl,hn⟩
  ·rw [if_pos hn] at h4
   repeat' (first | simp only [seval,exC,ZaN,h2,h4,h5,w1] | simp (disch:=omega) only [dxB])
  ·rw [if_neg (by omega)] at h4
   repeat' (first | simp only [seval,exC,ZaN,h2,h4,h5,w1] | simp (disch:=omega) only [dxB])
 ·have h2:=ZDb (w:=w) hw
  have h4:=ZJc (w:=w) hw
  simp only [shA,Fm.u,Fm.fr,Fm.sg,Fm.most,fldA,Int.cast_ofNat_Int,Nat.reducePow] at *
  generalize w % 9223372036854775808 = s at *
  have h5:=ZGw (w:=s) (by omega)
  rw [e3] at h5
  have w1 : (s : Int) / 4503599627370496 = (x : Int):=by omega
  rcases hn with ⟨rfl,hn⟩ | ⟨rfl,hn⟩
  ·rw [if_pos hn] at h4
   repeat' (first | simp only [seval,exC,ZaN,h2,h4,h5,w1] | simp (disch:=omega) only [dxB])
  ·rw [if_neg (by omega)] at h4
   repeat' (first | simp only [seval,exC,ZaN,h2,h4,h5,w1] | simp (disch:=omega) only [dxB])
theorem ZaP {F : Fm} {w : Nat} (h : w < 2 * F.sg) : w < 18446744073709551616:=by
 have : 2 * F.sg≤18446744073709551616:=by cases F <;> decide
 omega
theorem Zby (J : Al G T g) (F : Fm) {w : Nat} (hw : w < 2 * F.sg) : run G T 193 [.int .u8 F.u,.int .u64 (w : Int)] = some (.tup [.int .u8 (F.cls w),.int .i64 0]):=by
 rw [Zab G T J.U.Zby]
 have h1:=ZhS J F (ZaP hw)
 rw [if_pos hw] at h1
 have h2:=Zpk J F hw
 generalize F.cls w = c at *
 simp only [shA] at *
 repeat' (first | simp only [seval,exC,ZgO,h1,h2] | simp (disch:=omega) only [dxB])
theorem Zgc (J : Al G T g) (F : Fm) {w : Nat} (hw : w < 2 * F.sg) : run G T 192 [.int .u8 F.u,.int .u64 (w : Int)] = some (.tup [fldA (F.ng w) (F.ex w) (F.fc w),.int .i64 0]):=by
 rw [Zab G T J.U.Zgc]
 have h1:=ZhS J F (ZaP hw)
 rw [if_pos hw] at h1
 have h2:=Zse J F hw
 generalize F.ng w = n at *
 generalize F.ex w = x at *
 generalize F.fc w = y at *
 simp only [shA,fldA] at *
 repeat' (first | simp only [seval,exC,Zjb,h1,h2] | simp (disch:=omega) only [dxB])
theorem ZnC (J : Al G T g) (F : Fm) {w : Nat} (hw : w < 2 * F.sg) : run G T 202 [.int .u8 F.u,.int .u64 (w : Int)] = some (.tup [shA F,.int .i64 (if F.fin w then 0 else 7)]):=by
 rw [Zab G T J.U.ZnC]
 have h1:=ZhS J F (ZaP hw)
 rw [if_pos hw] at h1
 have h2:=Zpk J F hw
 have h3:=Zbu (F:=F) (w:=w)
 have h4:=ZbS F w
 by_cases hf : F.fin w
 ·rw [if_pos hf]
  have h5:=h3.1 hf
  clear h3
  generalize F.cls w = c at *
  have c1 : ¬ (4 : Int)≤c:=by omega
  simp only [shA] at *
  repeat' (first | simp only [seval,exC,Zfz,h1,h2,c1] | simp (disch:=omega) only [dxB])
 ·rw [if_neg hf]
  have h5 : ¬ (F.cls w = 1∨F.cls w = 2∨F.cls w = 3):=fun h => hf (h3.2 h)
  clear h3
  generalize F.cls w = c at *
  have c1 : (4 : Int)≤c:=by omega
  simp only [shA] at *
  repeat' (first | simp only [seval,exC,Zfz,h1,h2,c1] | simp (disch:=omega) only [dxB])
theorem ZKh {y k : Nat} (h : y < 2 ^ k) (hk : k < 63) : orI .u64 (y : Int) ((2 ^ k : Nat) : Int) = ((2 ^ k + y : Nat) : Int):=by
 have hp : (2 : Nat) ^ k < 2 ^ 64:=Nat.pow_lt_pow_right (by decide) (by omega)
 have e:=ZmX (c:=y) (x:=1) (s:=k) h
 rw [Nat.one_mul] at e
 rw [or64 (by omega) (by omega),e,Nat.add_comm]
theorem ZcR (J : Al G T g) (F : Fm) {w : Nat} (hw : w < 2 * F.sg) :
  ∃ z k,run G T 194 [.int .u8 F.u,.int .u64 (w : Int)] = some (.tup [DyA z (F.vl w),.int .i64 k]):=by
 have h1:=ZnC J F hw
 by_cases hf : F.fin w
 ·rw [if_pos hf] at h1
  have h2:=Zse J F hw
  have h3:=Zxr J F
  have hy : F.fc w < 2 ^ F.fr:=Nat.mod_lt _ (Nat.two_pow_pos _)
  have hp : 2 ^ F.fr≤4503599627370496:=by cases F <;> decide
  have hF:=ZbH F
  have hm : F.most≤2047:=by cases F <;> decide
  have hvl : F.vl w = F.val w:=if_pos hf
  rw [hvl]
  unfold Fm.fin at hf
  unfold Fm.val
  have hor:=ZKh hy (by omega)
  generalize F.ex w = x at *
  generalize F.fc w = y at *
  generalize F.ng w = n at *
  have hb1 : blen y≤53:=Zaf.2 (by omega)
  have hb2 : blen (2 ^ F.fr + y)≤53:=Zaf.2 (by omega)
  have hmin : min F.fr 64 = F.fr:=by omega
  have hp0:=Nat.two_pow_pos F.fr
  by_cases h0 : x = 0
  ·subst h0
   obtain ⟨z1,o1⟩:=ZqL J (n:=y) (by omega)
   obtain ⟨z2,o2⟩:=Zcm J (n:=n) (z:=z1) (a:=y) (e:=F.low) (Zak (by omega)) (ZrS (by omega) (by omega)) (by omega)
   have w1 : max (0 : Int) 1 = 1:=by decide
   have w2 : IntKind.i64.wrap (1 - 1) = 0:=rfl
   have w3 : IntKind.i64.wrap (0 + F.low) = F.low:=by rw [Int.zero_add]; exact Zac (by omega)
   have w4 : IntKind.i64.wrap F.low = F.low:=Zac (by omega)
   refine ⟨z2,0,?_⟩
   rw [if_pos rfl,Zab G T J.U.ZcR]
   simp only [shA,fldA,cast0,DyA,A3] at *
   repeat' (first | simp only [seval,exC,ZeL,h1,h2,h3,o1,w1,w2,w3,w4,ZlI,o2,Int.zero_add] | simp (disch:=omega) only [dxB])
  ·obtain ⟨z1,o1⟩:=ZqL J (n:=2 ^ F.fr + y) (by omega)
   obtain ⟨z2,o2⟩:=Zcm J (n:=n) (z:=z1) (a:=2 ^ F.fr + y) (e:=x - 1 + F.low) (Zak (by omega)) (ZrS (by omega) (by omega)) (by omega)
   have c0 : (0 : Int) < (x : Int):=by omega
   have w1 : max (x : Int) 1 = x:=by omega
   have w2 : IntKind.i64.wrap ((x : Int) - 1) = x - 1:=Zac (by omega)
   have w3 : IntKind.i64.wrap ((x : Int) - 1 + F.low) = x - 1 + F.low:=Zac (by omega)
   have w5 : (1 * (2 : Int) ^ F.fr) % 18446744073709551616 = ((2 ^ F.fr : Nat) : Int):=by rw [Zbb]; omega
   have w6 : ((2 : Int) ^ F.fr) % 18446744073709551616 = ((2 ^ F.fr : Nat) : Int):=by rw [Zbb]; omega
   refine ⟨z2,0,?_⟩
   rw [if_neg h0,Zab G T J.U.ZcR]
   simp only [shA,fldA,DyA,A3] at *
   repeat' (first | simp only [seval,exC,ZeL,h1,h2,h3,c0,hmin,w5,w6,hor,o1,w1,w2,w3,ZlI,o2] | simp (disch:=omega) only [dxB])
 ·rw [if_neg hf] at h1
  refine ⟨true,7,?_⟩
  have hvl : F.vl w = ⟨false,0,0⟩:=if_neg hf
  rw [hvl,Zab G T J.U.ZcR]
  simp only [shA,DyA,A3,Zai] at *
  repeat' (first | simp only [seval,exC,ZeL,h1] | simp (disch:=omega) only [dxB])
  all_goals try rfl
theorem ZuY (J : Al G T g) (F : Fm) : run G T 204 [shA F] = some (.int .u64 (F.nan : Int)):=by
 rw [Zab G T J.U.word_shape_none]
 have h:=ZoF (G:=G) J F
 cases F <;> (
  simp only [shA,Fm.u,Fm.fr,Fm.sg,Fm.most,Fm.nan,Int.cast_ofNat_Int,Nat.reducePow,Nat.reduceMul,Nat.reduceSub,Nat.reduceAdd] at *
  repeat' (first | simp only [seval,exC,ZdJ,h,ZKj,ZKi] | simp (disch:=omega) only [dxB]))
theorem Zhc (J : Al G T g) (F : Fm) : run G T 196 [.int .u8 F.u] = some (.tup [.int .u64 (F.nan : Int),.int .i64 0]):=by
 rw [Zab G T J.U.Zhc]
 have h:=Zgd (G:=G) J F (n:=false) (k:=204) (ZuY J F) (by cases F <;> decide)
 rw [show F.nan + F.sgn false = F.nan from rfl] at h
 repeat' (first | simp only [seval,exC,Zin,h] | simp (disch:=omega) only [dxB])
end Go.Cv
