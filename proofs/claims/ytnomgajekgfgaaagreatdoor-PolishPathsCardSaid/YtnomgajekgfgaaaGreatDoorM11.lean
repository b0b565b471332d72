/-
 A part of the proof of the statements of this seat (texts that the law's own text leans on): no condition.
-/
import Derived.Test.YtnomgajekgfgaaaGreatDoorM10
import Derived.Test.YtnomgajekgfgaaaGreatDoorM5
import Derived.Test.YtnomgajekgfgaaaGreatDoorM8
import Derived.Test.YtnomgajekgfgaaaGreatDoorM9
set_option linter.unusedVariables false
set_option linter.unusedSimpArgs false
namespace Go.Cv
variable {G : Nat→Option (List AV)} {T : Tbl} {g : Nat}
def Fm.ng (F : Fm) (w : Nat) : Bool:=decide (F.sg≤w)
def Fm.ex (F : Fm) (w : Nat) : Nat:=w % F.sg / 2 ^ F.fr
def Fm.fc (F : Fm) (w : Nat) : Nat:=w % F.sg % 2 ^ F.fr
def Fm.cls (F : Fm) (w : Nat) : Int:=if F.ex w = 0 then (if F.fc w = 0 then 1 else 2) else if F.ex w < F.most then 3 else if F.fc w = 0 then 4 else 5
def Fm.val (F : Fm) (w : Nat) : Dy:=if F.ex w = 0 then mkD (F.ng w) (F.fc w) F.low else mkD (F.ng w) (2 ^ F.fr + F.fc w) (F.ex w - 1 + F.low)
def Fm.ok (F : Fm) (w : Nat) : Prop:=w < 2 * F.sg
def Fm.fin (F : Fm) (w : Nat) : Prop:=F.ex w < F.most
instance (F : Fm) (w : Nat) : Decidable (F.fin w):=inferInstanceAs (Decidable (_ < _))
instance (F : Fm) (w : Nat) : Decidable (F.ok w):=inferInstanceAs (Decidable (_ < _))
theorem Zol (J : Al G T g) (F : Fm) : run G T 27 [.int .u8 F.u] = some (.bool true):=by
 rw [ZpM J]; cases F <;> rfl
theorem ZhO (J : Al G T g) (F : Fm) {w : Nat} (hw : w < 18446744073709551616) : run G T 149 [.int .u8 F.u,.int .u64 (w : Int)] = some (.int .i64 (if w < 2 * F.sg then 0 else 6)):=by
 rw [Zab G T J.F.ZhO]
 have h1:=Zol J F
 by_cases hk : w < 2 * F.sg
 ·rw [if_pos hk]
  cases F <;> (
   simp only [Fm.u,Fm.sg] at *
   repeat' (first | simp only [seval,exC,ZgI,h1] | simp (disch:=omega) only [dxB]))
 ·rw [if_neg hk]
  cases F <;> (
   simp only [Fm.u,Fm.sg] at *
   repeat' (first | simp only [seval,exC,ZgI,h1] | simp (disch:=omega) only [dxB]))
  all_goals omega
theorem ZDl {n n' : Bool} {x x' w w' : Int} (h1 : n = n') (h2 : x = x') (h3 : w = w') : some (AV.agg [.bool n,.int .i64 x,.int .u64 w]) = some (.agg [.bool n',.int .i64 x',.int .u64 w']):=by rw [h1,h2,h3]
theorem ZbZ (J : Al G T g) (F : Fm) {w : Nat} (hw : w < 18446744073709551616) : run G T 156 [.int .u8 F.u,.int .u64 (w : Int)] = some (fldA (F.ng w) (F.ex w) (F.fc w)):=by
 rw [Zab G T J.F.ZbZ]
 have h1:=ZhQ J F
 have h2:=ZdO J F
 cases F <;> (
  simp only [Fm.u,Fm.ng,Fm.ex,Fm.fc,Fm.sg,Fm.fr,fldA,Int.cast_ofNat_Int,Nat.reducePow] at *
  repeat' (first | simp only [seval,exC,ZhC,h1,h2] | simp (disch:=omega) only [dxB]))
 ·exact ZDl (by congr 1; apply propext; omega) rfl rfl
 ·exact ZDl (by congr 1; apply propext; omega) rfl rfl
theorem ZaA (J : Al G T g) (F : Fm) {w : Nat} (hw : w < 18446744073709551616) : run G T 155 [.int .u8 F.u,.int .u64 (w : Int)] = some (.int .u8 (F.cls w)):=by
 rw [Zab G T J.F.ZaA]
 have h1:=ZbZ J F hw
 have h2:=ZhP J F
 unfold Fm.cls
 simp only [fldA] at *
 generalize F.ex w = x at *
 generalize F.fc w = y at *
 repeat' (first|simp (maxSteps:=9^7) only [seval,exC,ZhB,h1,h2]|simp (maxSteps:=9^7) (disch:=first|with_reducible assumption|omega) only [dxB]|(simp only [kdB];split)|(simp only [kvB];split))
 all_goals (refine ZmO ?_; repeat (first | rw [if_pos (by omega)] | rw [if_neg (by omega)]))
theorem ZyW (F : Fm) (w : Nat) : F.fin w↔F.cls w≠4∧F.cls w≠5:=by
 have hm : 0 < F.most:=by cases F <;> decide
 unfold Fm.fin Fm.cls
 generalize F.ex w = x
 generalize F.fc w = y
 repeat' split
 all_goals omega
theorem ZeM (J : Al G T g) (F : Fm) {w : Nat} (hw : w < 18446744073709551616) : run G T 150 [.int .u8 F.u,.int .u64 (w : Int)] = some (.bool (decide (F.fin w))):=by
 rw [Zab G T J.F.ZeM]
 have h1:=ZaA J F hw
 have h2:=ZyW F w
 by_cases h3 : F.fin w
 ·have h4:=h2.1 h3
  rw [decide_eq_true h3]
  clear h2 h3
  generalize F.cls w = c at *
  repeat' (first|simp (maxSteps:=9^7) only [seval,exC,Zeb,h1]|simp (maxSteps:=9^7) (disch:=first|with_reducible assumption|omega) only [dxB]|(simp only [kdB];split)|(simp only [kvB];split))
 ·have h4 : F.cls w = 4∨F.cls w = 5:=by
   by_cases a : F.cls w = 4
   ·exact Or.inl a
   ·by_cases b : F.cls w = 5
    ·exact Or.inr b
    ·exact absurd (h2.2 ⟨a,b⟩) h3
  rw [decide_eq_false h3]
  clear h2 h3
  generalize F.cls w = c at *
  repeat' (first|simp (maxSteps:=9^7) only [seval,exC,Zeb,h1]|simp (maxSteps:=9^7) (disch:=first|with_reducible assumption|omega) only [dxB]|(simp only [kdB];split)|(simp only [kvB];split))
  all_goals (rcases h4 with rfl | rfl <;> simp_all)
theorem Zjh (J : Al G T g) {n : Nat} (hn : n < 18446744073709551616) : ∃ z',run G T 46 [.int .u64 (n : Int)] = some (D z' (dl n)):=by
 apply exP
 rw [Zab G T J.B.Zjh]
 have w1 : (n : Int) % 4294967296 = ((n % 4294967296 : Nat) : Int):=by omega
 have w2 : (n : Int) / 4294967296 % 4294967296 = ((n / 4294967296 : Nat) : Int):=by omega
 have hd : Dg [n % 4294967296,n / 4294967296]:=ZfO.2 ⟨by omega,ZfO.2 ⟨by omega,Dg.nil⟩⟩
 have hv : val [n % 4294967296,n / 4294967296] = n:=by simp only [val]; omega
 obtain ⟨z',hz⟩:=ZcQ J (z:=false) hd (by simp)
 rw [hv] at hz
 have hf : fillA (repA 2 [AV.int .u32 0]) [(0,1,.int .u32 ((n % 4294967296 : Nat) : Int)),(1,1,.int .u32 ((n / 4294967296 : Nat) : Int))] = some (cells [n % 4294967296,n / 4294967296]):=rfl
 have hok : (cells [n % 4294967296,n / 4294967296]).all okCell = true:=Zwf _
 have hsn : snapG (Heap.mem ⟨Heap.nil.b ++ [⟨cells [n % 4294967296,n / 4294967296],false⟩],Heap.nil.f⟩) 3 Heap.nil.b.length 0 2 1 = some (D false [n % 4294967296,n / 4294967296]) :=
  Zch (ZbA FreH.nil [n % 4294967296,n / 4294967296]) (Nat.le_refl 2)
 repeat (first | simp only [seval,evB,Zmn,w1,w2,hf,hok,hsn,hz] | simp (disch:=omega) only [dsB])
 exact Post.some ⟨z',rfl⟩
theorem ZaX (J : Al G T g) (F : Fm) {w : Nat} (hw : w < 18446744073709551616) (hf : F.fin w) :
  ∃ z,run G T 151 [.int .u8 F.u,.int .u64 (w : Int)] = some (DyA z (F.val w)):=by
 apply exP
 rw [Zab G T J.F.ZaX]
 have h1:=ZbZ J F hw
 have h2:=ZlR J F
 have h3:=ZdO J F
 have hy : F.fc w < 2 ^ F.fr:=Nat.mod_lt _ (Nat.two_pow_pos _)
 have hp : 2 ^ F.fr≤4503599627370496:=by cases F <;> decide
 have hF:=ZbH F
 have hm : F.most≤2047:=by cases F <;> decide
 unfold Fm.fin at hf
 unfold Fm.val
 generalize F.ex w = x at *
 generalize F.fc w = y at *
 generalize F.ng w = n at *
 have hb1 : blen y≤53:=Zaf.2 (by omega)
 have hb2 : blen (2 ^ F.fr + y)≤53:=Zaf.2 (by omega)
 have hl1:=Zaa y
 have hl2:=Zaa (2 ^ F.fr + y)
 have hmin : min F.fr 64 = F.fr:=by omega
 have hp0:=Nat.two_pow_pos F.fr
 have hs1 : (1 * (2 : Int) ^ F.fr % 18446744073709551616 + (y : Int)) % 18446744073709551616 = ((2 ^ F.fr + y : Nat) : Int):=by rw [Zbb]; omega
 by_cases h0 : x = 0
 ·obtain ⟨z1,o1⟩:=Zjh J (n:=y) (by omega)
  obtain ⟨z2,o2⟩:=ZaQ J (n:=n) (z:=z1) (a:=y) (e:=F.low) (by omega) (by omega)
  subst h0
  rw [if_pos rfl]
  simp only [fldA,DyA,A3,cast0] at *
  repeat' (first | simp only [seval,exC,Zfj,h1,h2,h3,o1,o2] | simp (disch:=omega) only [dxB])
  all_goals exact Post.some ⟨z2,rfl⟩
 ·obtain ⟨z1,o1⟩:=Zjh J (n:=2 ^ F.fr + y) (by omega)
  obtain ⟨z2,o2⟩:=ZaQ J (n:=n) (z:=z1) (a:=2 ^ F.fr + y) (e:=x - 1 + F.low) (by omega) (by omega)
  rw [if_neg h0]
  simp only [fldA,DyA,A3] at *
  repeat' (first | simp only [seval,exC,Zfj,h1,h2,h3,hmin,hs1,o1,o2] | simp (disch:=omega) only [dxB])
  all_goals exact Post.some ⟨z2,rfl⟩
def Fm.up (F : Fm) (w : Nat) : Nat × Bool:=if F.cls w = 4∧F.ng w = false then (0,false) else if F.cls w = 1 then (1,true) else if F.ng w then (w - 1,true) else (w + 1,true)
theorem ZGp (F : Fm) {w : Nat} (hf : F.fin w) : Bd (F.val w) 4096:=by
 have hm : F.most≤2047:=by cases F <;> decide
 have hy : F.fc w < 2 ^ F.fr:=Nat.mod_lt _ (Nat.two_pow_pos _)
 have hp : 2 ^ F.fr≤4503599627370496:=by cases F <;> decide
 have hF:=ZbH F
 unfold Fm.fin at hf
 unfold Fm.val
 generalize F.ex w = x at *
 generalize F.fc w = y at *
 have hb1 : blen y≤53:=Zaf.2 (by omega)
 have hb2 : blen (2 ^ F.fr + y)≤53:=Zaf.2 (by omega)
 split
 ·exact Zpv (by omega) (by omega) (by omega)
 ·exact Zpv (by omega) (by omega) (by omega)
section
end
theorem ZIU (md : Int) (neg odd : Bool) : upB md neg odd false false = false:=by simp [upB]
theorem ZFD (md : Int) (neg : Bool) (M : Nat) {E u L : Int} (h1 : L≤E) (h2 : L < u) : rnd md neg M E u = rdN md neg (M * 2 ^ (E - L).toNat) false (u - L).toNat:=by
 rw [ZDv _ _ _ _ _ (by omega)]
 unfold rnd
 by_cases h : u≤E
 ·rw [if_pos h,if_pos (by omega),show (E - L).toNat - (u - L).toNat = (E - u).toNat by omega]
 ·rw [if_neg h,if_neg (by omega),show (u - L).toNat - (E - L).toNat = (u - E).toNat by omega]
structure Rd (md : Int) (neg : Bool) (A U W : Nat) (ex b : Bool) : Prop where
 lo : W * U≤A
 hi : A < (W + 1) * U
 exi : ex = true↔A = W * U
 xb : ex = true→b = false
 b3 : md = 3→b = false
 b4 : md = 4→b = (!neg && !ex)
 b5 : md = 5→b = (neg && !ex)
 near : md = 1∨md = 2→(b = true→(2 * W + 1) * U≤2 * A)∧(b = false→2 * A≤(2 * W + 1) * U)
theorem ZHZ (md : Int) (neg : Bool) (A : Nat) {k : Nat} (hk : 0 < k) : ∃ b,rdN md neg A false k = (A / 2 ^ k + b.toNat,decide (A % 2 ^ k = 0))∧Rd md neg A (2 ^ k) (A / 2 ^ k) (decide (A % 2 ^ k = 0)) b:=by
 obtain ⟨q1,q2,q3⟩:=ZlD A hk
 have hd:=Nat.div_add_mod A (2 ^ k)
 have hml:=Nat.mod_lt A (Nat.two_pow_pos k)
 refine ⟨upB md neg (decide (A / 2 ^ k % 2 = 1)) (halfN A k) (moreN A false k),?_,?_⟩
 ·simp only [rdN]
  congr 1
  simp only [moreN,Bool.false_or]
  cases hh : halfN A k
  ·rw [hh] at q1; simp only [Bool.false_eq_true,if_false,Nat.zero_add] at q1
   rw [q1]; simp
  ·rw [hh] at q1; simp only [if_true] at q1
   have : A % 2 ^ k≠0:=by omega
   simp [this]
 ·have hmo : moreN A false k = decide (A % 2 ^ (k - 1)≠0):=by simp [moreN]
  rw [hmo]
  generalize halfN A k = hf at *
  generalize A % 2 ^ (k - 1) = S at *
  generalize A % 2 ^ k = R at *
  generalize A / 2 ^ k = W at *
  rw [q3] at *
  generalize 2 ^ (k - 1) = P at *
  have e1 : W * (2 * P) = 2 * P * W:=Nat.mul_comm ..
  have e2 : (W + 1) * (2 * P) = 2 * P * W + 2 * P:=by rw [Nat.add_mul,Nat.one_mul,e1]
  have e3 : (2 * W + 1) * (2 * P) = 2 * (2 * P * W) + 2 * P:=by rw [Nat.add_mul,Nat.one_mul,Nat.mul_assoc,e1]
  refine ⟨by rw [e1]; omega,by rw [e2]; omega,?_,?_,?_,?_,?_,?_⟩
  ·rw [decide_eq_true_eq,e1]; omega
  ·intro h; simp only [decide_eq_true_eq] at h
   have : hf = false∧S = 0:=by cases hf <;> simp at q1 <;> (try constructor) <;> (try rfl) <;> omega
   rw [this.1,this.2]; exact ZIU ..
  ·rintro rfl; simp [upB]
  ·rintro rfl
   cases hf <;> cases neg <;> by_cases hS : S = 0 <;> simp [upB,hS] at q1 ⊢ <;> omega
  ·rintro rfl
   cases hf <;> cases neg <;> by_cases hS : S = 0 <;> simp [upB,hS] at q1 ⊢ <;> omega
  ·rw [e3]
   generalize 2 * P * W = Q at *
   rintro (rfl | rfl)
   ·cases hf <;> by_cases hS : S = 0 <;> simp [upB,hS] at q1 ⊢ <;> (try constructor) <;> (try intro _) <;> omega
   ·cases hf <;> by_cases hS : S = 0 <;> simp [upB,hS] at q1 ⊢ <;> omega
theorem Zuz (md : Int) (neg : Bool) (M : Nat) {E u L : Int} (h1 : L≤E) (h2 : L < u) :
  ∃ b,rnd md neg M E u = (M * 2 ^ (E - L).toNat / 2 ^ (u - L).toNat + b.toNat,decide (M * 2 ^ (E - L).toNat % 2 ^ (u - L).toNat = 0)) ∧
   Rd md neg (M * 2 ^ (E - L).toNat) (2 ^ (u - L).toNat) (M * 2 ^ (E - L).toNat / 2 ^ (u - L).toNat) (decide (M * 2 ^ (E - L).toNat % 2 ^ (u - L).toNat = 0)) b:=by
 rw [ZFD md neg M h1 h2]
 exact ZHZ md neg _ (by omega)
theorem ZCh (md : Int) (neg : Bool) {A B : Nat} (h : A≤B) {k : Nat} (hk : 0 < k) : (rdN md neg A false k).1≤(rdN md neg B false k).1:=by
 have hdiv : A / 2 ^ k≤B / 2 ^ k:=Nat.div_le_div_right h
 have hb : ∀ b : Bool,b.toNat≤1:=fun b => by cases b <;> decide
 simp only [rdN]
 by_cases he : A / 2 ^ k = B / 2 ^ k
 ·rw [he]
  obtain ⟨q1,q2,q3⟩:=ZlD A hk
  obtain ⟨r1,r2,_⟩:=ZlD B hk
  have hd:=Nat.div_add_mod A (2 ^ k)
  have hd':=Nat.div_add_mod B (2 ^ k)
  rw [he] at hd
  have hR : A % 2 ^ k≤B % 2 ^ k:=by omega
  have m1 : moreN A false k = decide (A % 2 ^ (k - 1)≠0):=by simp [moreN]
  have m2 : moreN B false k = decide (B % 2 ^ (k - 1)≠0):=by simp [moreN]
  rw [m1,m2]
  generalize halfN A k = f1 at *
  generalize halfN B k = f2 at *
  generalize A % 2 ^ (k - 1) = S1 at *
  generalize B % 2 ^ (k - 1) = S2 at *
  generalize A % 2 ^ k = R1 at *
  generalize B % 2 ^ k = R2 at *
  generalize decide (B / 2 ^ k % 2 = 1) = od
  generalize 2 ^ (k - 1) = P at *
  have hle : (upB md neg od f1 (decide (S1≠0))) = true→(upB md neg od f2 (decide (S2≠0))) = true:=by
   unfold upB
   clear hb m1 m2 hd hd' he hdiv h q3
   cases f1 <;> cases f2 <;> simp only [if_true,if_false,Bool.false_eq_true,Nat.zero_add] at q1 r1 <;> by_cases a : S1 = 0 <;> by_cases b : S2 = 0 <;>
    first
    | (exfalso; omega)
    | (cases neg <;> cases od <;> simp [a,b] <;> (try omega))
  generalize upB md neg od f1 (decide (S1≠0)) = b1 at *
  generalize upB md neg od f2 (decide (S2≠0)) = b2 at *
  cases b1 <;> cases b2 <;> simp at *
 ·have:=hb (upB md neg (decide (A / 2 ^ k % 2 = 1)) (halfN A k) (moreN A false k))
  omega
def Fm.i0 (F : Fm) : Nat:=F.most * 2 ^ F.fr
theorem ZtZ (F : Fm) (n : Bool) : F.inf n = F.i0 + F.sgn n:=rfl
theorem ZgS (F : Fm) : F.i0 + 2 ^ F.fr = F.sg∧0 < F.i0∧0 < F.sg∧F.sg≤9223372036854775808∧F.i0 < F.sg:=by cases F <;> decide
def magN (F : Fm) (s : Nat) : Nat:=if s / 2 ^ F.fr = 0 then s % 2 ^ F.fr else (2 ^ F.fr + s % 2 ^ F.fr) * 2 ^ (s / 2 ^ F.fr - 1)
theorem Zug (F : Fm) (s : Nat) : magN F s < magN F (s + 1):=by
 unfold magN
 have hp:=Nat.two_pow_pos F.fr
 generalize 2 ^ F.fr = P at *
 have hd:=Nat.div_add_mod s P
 have hm:=Nat.mod_lt s hp
 have hd':=Nat.div_add_mod (s + 1) P
 have hm':=Nat.mod_lt (s + 1) hp
 by_cases h : s % P + 1 < P
 ·have e1 : (s + 1) / P = s / P:=by
   rw [Nat.div_eq_of_lt_le] <;> (rw [Nat.mul_comm]; try rw [Nat.mul_add]) <;> omega
  have e2 : (s + 1) % P = s % P + 1:=by rw [e1] at hd'; omega
  rw [e1,e2]
  by_cases h0 : s / P = 0
  ·rw [if_pos h0,if_pos h0]; omega
  ·rw [if_neg h0,if_neg h0]
   exact Nat.mul_lt_mul_of_pos_right (by omega) (Nat.two_pow_pos _)
 ·have e1 : (s + 1) / P = s / P + 1:=by
   rw [Nat.div_eq_of_lt_le] <;> (rw [Nat.mul_comm]; rw [Nat.mul_add]; try rw [Nat.mul_add]) <;> omega
  have e2 : (s + 1) % P = 0:=by rw [e1,Nat.mul_add] at hd'; generalize P * (s / P) = Q at *; omega
  have e3 : ¬ (s / P + 1 = 0):=by generalize s / P = Q; omega
  rw [e1,e2]
  by_cases h0 : s / P = 0
  ·rw [if_pos h0,h0]; simp; omega
  ·rw [if_neg h0,if_neg e3]
   obtain ⟨k,hk⟩:=Nat.exists_eq_succ_of_ne_zero h0
   rw [hk]
   simp only [Nat.add_sub_cancel,Nat.add_zero]
   rw [Nat.pow_succ,← Nat.mul_assoc,Nat.mul_comm (P * 2 ^ k) 2,← Nat.mul_assoc]
   exact Nat.mul_lt_mul_of_pos_right (by omega) (Nat.two_pow_pos _)
theorem ZEU (F : Fm) {a b : Nat} (h : a < b) : magN F a < magN F b:=by
 obtain ⟨k,rfl⟩ : ∃ k,b = a + 1 + k:=⟨b - a - 1,by omega⟩
 clear h
 induction k with
 | zero => exact Zug F a
 | succ k ih => exact Nat.lt_trans ih (Zug F _)
theorem ZET (F : Fm) {a b : Nat} (h : a≤b) : magN F a≤magN F b:=by
 rcases Nat.lt_or_ge a b with h1 | h1
 ·exact Nat.le_of_lt (ZEU F h1)
 ·rw [Nat.le_antisymm h h1]; exact Nat.le_refl _
theorem ZsG (F : Fm) {n : Nat} {u : Int} (h1 : n≤2 ^ (F.fr + 1)) (h2 : F.low≤u) (h3 : u = F.low∨2 ^ F.fr≤n) : magN F (F.enc n u) = n * 2 ^ (u - F.low).toNat:=by
 unfold magN Fm.enc
 have hp:=Nat.two_pow_pos F.fr
 rw [Nat.pow_succ] at h1
 generalize 2 ^ F.fr = P at *
 generalize hk : (u - F.low).toNat = k at *
 have h3' : k = 0∨P≤n:=by omega
 clear h3 h2 hk
 have q : ∀ j r,r < P→(j * P + r) / P = j∧(j * P + r) % P = r:=fun j r hr => by
  constructor
  ·rw [Nat.mul_comm,Nat.mul_add_div hp,Nat.div_eq_of_lt hr]; rfl
  ·rw [Nat.mul_comm,Nat.mul_add_mod,Nat.mod_eq_of_lt hr]
 rcases Nat.lt_or_ge n P with h | h
 ·obtain rfl : k = 0:=by omega
  obtain ⟨e1,e2⟩:=q 0 n h
  rw [e1,e2]; simp
 ·rcases Nat.lt_or_ge n (2 * P) with h4 | h4
  ·obtain ⟨e1,e2⟩:=q (k + 1) (n - P) (by omega)
   have e3 : (k + 1) * P + (n - P) = k * P + n:=by rw [Nat.add_mul]; omega
   rw [e3] at e1 e2
   rw [e1,e2,if_neg (by omega),Nat.add_sub_cancel,show P + (n - P) = n by omega]
  ·obtain rfl : n = 2 * P:=by omega
   obtain ⟨e1,e2⟩:=q (k + 2) 0 hp
   have e3 : (k + 2) * P + 0 = k * P + 2 * P:=by rw [Nat.add_mul]; rfl
   rw [e3] at e1 e2
   rw [e1,e2,if_neg (by omega),show k + 2 - 1 = k + 1 by omega,Nat.pow_succ,Nat.add_zero,Nat.mul_comm (2 ^ k) 2,← Nat.mul_assoc,Nat.mul_comm P 2]
theorem ZeA {F : Fm} {s : Nat} (n : Bool) (h : s < F.sg) : (s + F.sgn n) % F.sg = s∧F.ng (s + F.sgn n) = n:=by
 unfold Fm.sgn Fm.ng
 cases n
 ·simp only [Bool.false_eq_true,if_false,Nat.add_zero]
  exact ⟨Nat.mod_eq_of_lt h,decide_eq_false (by omega)⟩
 ·simp only [if_true]
  exact ⟨by rw [Nat.add_mod_right]; exact Nat.mod_eq_of_lt h,decide_eq_true (by omega)⟩
theorem Zjd {F : Fm} {s : Nat} (n : Bool) (h : s < F.i0) : F.fin (s + F.sgn n):=by
 have hi:=ZgS F
 unfold Fm.fin Fm.ex
 rw [(ZeA n (by omega : s < F.sg)).1]
 exact Nat.div_lt_of_lt_mul (by rw [Nat.mul_comm]; exact h)
theorem Zqf (F : Fm) (n : Bool) : F.cls (F.inf n) = 4:=by cases F <;> cases n <;> decide
theorem ZHi {F : Fm} {s : Nat} (n : Bool) (h : s < F.i0) : iv (F.val (s + F.sgn n)) F.low = (if n then -1 else 1) * (magN F s : Int)∧LoE (F.val (s + F.sgn n)) F.low∧Nz (F.val (s + F.sgn n)):=by
 have hi:=ZgS F
 obtain ⟨e1,e2⟩:=ZeA n (by omega : s < F.sg)
 unfold Fm.val Fm.ex Fm.fc magN
 rw [e1,e2]
 split
 ·next h0 =>
  refine ⟨?_,ZmT (Int.le_refl _),ZpZ ..⟩
  rw [ZrA (Int.le_refl _),Int.sub_self]; simp
 ·next h0 =>
  have hx : F.low≤(s / 2 ^ F.fr : Nat) - 1 + F.low:=by generalize s / 2 ^ F.fr = Q at *; omega
  refine ⟨?_,ZmT hx,ZpZ ..⟩
  rw [ZrA hx,show ((s / 2 ^ F.fr : Nat) - 1 + F.low - F.low : Int).toNat = s / 2 ^ F.fr - 1 by generalize s / 2 ^ F.fr = Q at *; omega]
theorem ZBf (F : Fm) (n : Nat) (u : Int) : F.enc (n + 1) u = F.enc n u + 1:=rfl
theorem Zqp (F : Fm) {n : Nat} {u : Int} (h1 : n≤2 ^ (F.fr + 1)) (h2 : F.low≤u) (h3 : u = F.low∨2 ^ F.fr≤n) : (F.wide < blen n + u)↔F.i0≤F.enc n u:=by
 constructor
 ·intro h
  have hF:=ZbH F
  have h3' : 2 ^ F.fr≤n:=by
   rcases h3 with h3 | h3
   ·exfalso
    have : blen n≤F.fr + 2:=Zaf.2 (Nat.lt_of_le_of_lt h1 (Nat.pow_lt_pow_right (by decide) (by omega)))
    omega
   ·exact h3
  have hb:=Zbn.2 h3'
  have hm : (F.most : Int) = F.wide - F.low - F.fr + 1:=by cases F <;> decide
  unfold Fm.i0 Fm.enc
  rcases Nat.lt_or_ge n (2 ^ (F.fr + 1)) with h4 | h4
  ·have:=Zaf.2 h4
   obtain ⟨k,hk⟩ : ∃ k,(u - F.low).toNat = k:=⟨_,rfl⟩
   have h5 : F.most≤k + 1:=by omega
   have h6:=Nat.mul_le_mul_right (2 ^ F.fr) h5
   rw [Nat.add_mul,Nat.one_mul] at h6
   rw [hk]; omega
  ·have h7 : n = 2 ^ F.fr * 2:=by rw [Nat.pow_succ] at h1 h4; omega
   have h8 : blen n = F.fr + 2:=by
    have:=Zav (n:=1) (by decide) (F.fr + 1)
    rw [Nat.one_mul,Nat.pow_succ,← h7,show blen 1 = 1 from rfl] at this; omega
   obtain ⟨k,hk⟩ : ∃ k,(u - F.low).toNat = k:=⟨_,rfl⟩
   have h5 : F.most≤k + 2:=by omega
   have h6:=Nat.mul_le_mul_right (2 ^ F.fr) h5
   rw [Nat.add_mul] at h6
   rw [hk]; omega
 ·intro h
  by_cases hw : F.wide < blen n + u
  ·exact hw
  ·exfalso
   by_cases h0 : n = 0
   ·subst h0
    have hu : u = F.low:=by
     rcases h3 with h3 | h3
     ·exact h3
     ·have:=Nat.two_pow_pos F.fr; omega
    rw [hu] at h
    have:=(ZgS F).2.1
    simp [Fm.enc] at h; omega
   ·have:=Zwn (ZmB (F:=F) (neg:=false) h0 h1 h2 (by omega))
    rw [ZsH h0 h1 h2 h3] at this
    unfold Fm.i0 at h; omega
end Go.Cv
namespace Go.Cv
def ovs (F : Fm) (md : Int) (neg : Bool) : Nat:=if md = 3∨(md = 4∧neg = true)∨(md = 5∧neg = false) then F.i0 - 1 else F.i0
theorem ZwM (F : Fm) (md : Int) (neg : Bool) : ovr F md neg = ovs F md neg + F.sgn neg:=by
 have:=ZgS F
 unfold ovr ovs
 rw [ZtZ]
 split <;> omega
structure Shp (F : Fm) (d : Dy) (L : Int) (A U W e0 : Nat) (u : Int) (ex : Bool) : Prop where
 hL : L < F.low∧L < d.e∧L < u
 hA : A = d.m * 2 ^ (d.e - L).toNat
 hU : U = 2 ^ (u - L).toNat
 lou : F.low≤u
 he0 : e0 = F.enc W u
 wb : W≤2 ^ (F.fr + 1)∧(ex = false→W + 1≤2 ^ (F.fr + 1))
 wc : u = F.low∨2 ^ F.fr≤W
 all : ∀ md : Int,1≤md→md≤5→∃ b fl,rndW F md d = ((if F.i0≤e0 + b.toNat then ovs F md d.n else e0 + b.toNat) + F.sgn d.n,if F.i0≤e0 + b.toNat then 20 else if ex then 0 else fl) ∧
  (fl = 16∨fl = 24)∧Rd md d.n A U W ex b
theorem ZIu (F : Fm) {d : Dy} (h0 : d.m≠0) {L : Int} (l1 : L < F.low) (l2 : L < d.e) : ∃ A U W e0 u ex,Shp F d L A U W e0 u ex∧u = F.eOf (d.e + blen d.m):=by
 have hu : F.low≤F.eOf (d.e + blen d.m):=by unfold Fm.eOf; omega
 refine ⟨_,_,d.m * 2 ^ (d.e - L).toNat / 2 ^ (F.eOf (d.e + blen d.m) - L).toNat,_,F.eOf (d.e + blen d.m),decide (d.m * 2 ^ (d.e - L).toNat % 2 ^ (F.eOf (d.e + blen d.m) - L).toNat = 0),⟨⟨l1,l2,by omega⟩,rfl,rfl,hu,rfl,?_,?_,?_⟩,rfl⟩
 ·obtain ⟨b,e1,R⟩:=Zuz 3 d.n d.m (E:=d.e) (u:=F.eOf (d.e + blen d.m)) (L:=L) (by omega) (by omega)
  have q:=(Zor F (md:=3) h0).1
  rw [e1,R.b3 rfl] at q
  refine ⟨by simpa using q,fun hx => ?_⟩
  cases hn : d.n
  ·obtain ⟨b,e1,R⟩:=Zuz 4 d.n d.m (E:=d.e) (u:=F.eOf (d.e + blen d.m)) (L:=L) (by omega) (by omega)
   have q:=(Zor F (md:=4) h0).1
   rw [e1,R.b4 rfl,hx,hn] at q
   simpa using q
  ·obtain ⟨b,e1,R⟩:=Zuz 5 d.n d.m (E:=d.e) (u:=F.eOf (d.e + blen d.m)) (L:=L) (by omega) (by omega)
   have q:=(Zor F (md:=5) h0).1
   rw [e1,R.b5 rfl,hx,hn] at q
   simpa using q
 ·obtain ⟨b,e1,R⟩:=Zuz 3 d.n d.m (E:=d.e) (u:=F.eOf (d.e + blen d.m)) (L:=L) (by omega) (by omega)
  have q:=(Zor F (md:=3) h0).2.1
  rw [e1,R.b3 rfl] at q
  simpa using q
 ·intro md m1 m2
  obtain ⟨b,e1,R⟩:=Zuz md d.n d.m (E:=d.e) (u:=F.eOf (d.e + blen d.m)) (L:=L) (by omega) (by omega)
  obtain ⟨q1,q2,_,_⟩:=Zor F (md:=md) h0
  have hb:=Zqp F q1 hu q2
  have hs : rndW F md d = wordOf F md d.n (rnd md d.n d.m d.e (F.eOf (d.e + blen d.m))).1 (rnd md d.n d.m d.e (F.eOf (d.e + blen d.m))).2 (F.eOf (d.e + blen d.m)) (d.e + blen d.m) (rnd md d.n d.m d.e (d.e + blen d.m - F.fr - 1)).1:=by
   simp only [rndW,if_neg h0]
  have he : F.enc (rnd md d.n d.m d.e (F.eOf (d.e + blen d.m))).1 (F.eOf (d.e + blen d.m)) = F.enc (d.m * 2 ^ (d.e - L).toNat / 2 ^ (F.eOf (d.e + blen d.m) - L).toNat) (F.eOf (d.e + blen d.m)) + b.toNat:=by
   rw [e1]; unfold Fm.enc; simp only; omega
  rw [he] at hb
  refine ⟨b,if blen (rnd md d.n d.m d.e (d.e + blen d.m - F.fr - 1)).1 + (d.e + blen d.m - F.fr - 1) < F.low + F.fr + 1 then 24 else 16,?_,by split <;> simp,R⟩
  rw [hs]
  unfold wordOf
  rw [he]
  by_cases hv : F.wide < blen (rnd md d.n d.m d.e (F.eOf (d.e + blen d.m))).1 + F.eOf (d.e + blen d.m)
  ·rw [if_pos hv,if_pos (hb.1 hv),if_pos (hb.1 hv),ZwM]
  ·have hv':=fun h => hv (hb.2 h)
   rw [if_neg hv,if_neg hv',if_neg hv']
   congr 1
   rw [e1]
theorem ZwA {F : Fm} {s : Nat} (n : Bool) (h : s < F.i0) {L : Int} (hL : L≤F.low) : iv (F.val (s + F.sgn n)) L = (if n then -1 else 1) * ((magN F s * 2 ^ (F.low - L).toNat : Nat) : Int)∧LoE (F.val (s + F.sgn n)) L:=by
 obtain ⟨h1,h2,_⟩:=ZHi n h
 refine ⟨?_,h2.mono hL⟩
 rw [ZBJ h2 hL,h1,Int.mul_assoc,← Int.natCast_mul]
theorem ZHg {d : Dy} {L : Int} : iv d L = (if d.n then -1 else 1) * ((d.m * 2 ^ (d.e - L).toNat : Nat) : Int):=rfl
section
variable {F : Fm} {d : Dy} {L : Int} {A U W e0 : Nat} {u : Int} {ex : Bool}
theorem Shp.worth (S : Shp F d L A U W e0 u ex) : magN F e0 * 2 ^ (F.low - L).toNat = W * U:=by
 rw [S.he0,ZsG F S.wb.1 S.lou S.wc,S.hU,Nat.mul_assoc,← Nat.pow_add]
 have:=S.hL; have:=S.lou
 rw [show (u - F.low).toNat + (F.low - L).toNat = (u - L).toNat by omega]
theorem Shp.worth1 (S : Shp F d L A U W e0 u ex) (hx : ex = false) : magN F (e0 + 1) * 2 ^ (F.low - L).toNat = (W + 1) * U:=by
 rw [S.he0,← ZBf,ZsG F (S.wb.2 hx) S.lou (S.wc.imp id fun h => by omega),S.hU,Nat.mul_assoc,← Nat.pow_add]
 have:=S.hL; have:=S.lou
 rw [show (u - F.low).toNat + (F.low - L).toNat = (u - L).toNat by omega]
theorem ZnO {s : Nat} (n : Bool) (h : s < F.i0) (hL : L≤F.low) (hd : LoE d L) : cmpD (F.val (s + F.sgn n)) d = sgI ((if n then -1 else 1) * ((magN F s * 2 ^ (F.low - L).toNat : Nat) : Int) - iv d L):=by
 obtain ⟨h1,h2⟩:=ZwA n h hL
 rw [Zpo h2 hd,h1]
end
end Go.Cv
namespace Go.Cv
theorem Zsr {F : Fm} {s : Nat} (n : Bool) (h : s≤F.i0) : (F.cls (s + F.sgn n) = 1↔s = 0)∧(F.cls (s + F.sgn n) = 4↔s = F.i0)∧F.cls (s + F.sgn n)≠5:=by
 have hi:=ZgS F
 obtain ⟨e1,e2⟩:=ZeA n (by omega : s < F.sg)
 unfold Fm.cls Fm.ex Fm.fc
 rw [e1]
 unfold Fm.i0 at *
 have hp:=Nat.two_pow_pos F.fr
 have hm : 1 < F.most:=by cases F <;> decide
 generalize F.most = K at *
 generalize 2 ^ F.fr = P at *
 have hd:=Nat.div_add_mod s P
 have hml:=Nat.mod_lt s hp
 have h3 : s / P≤K:=by
  apply Nat.div_le_of_le_mul; rw [Nat.mul_comm]; exact h
 have h4 : s / P = K→s % P = 0:=by
  intro hk; rw [hk,Nat.mul_comm] at hd; omega
 have h5 : s / P = 0→s = s % P:=by intro hk; rw [hk,Nat.mul_zero] at hd; omega
 have h6 : s / P = K↔s = K * P:=by
  constructor
  ·intro hk; have:=h4 hk; rw [hk,this,Nat.mul_comm] at hd; omega
  ·intro hk; rw [hk,Nat.mul_div_cancel _ hp]
 have h7 : K * P≠0:=by have:=Nat.mul_pos (by omega : 0 < K) hp; omega
 have h8 : s = 0→s / P = 0:=by rintro rfl; exact Nat.zero_div _
 generalize s / P = x at *
 generalize s % P = y at *
 generalize K * P = KP at *
 clear hd
 refine ⟨?_,?_,?_⟩ <;> (repeat' split) <;> omega
structure Betw (F : Fm) (md : Int) (d : Dy) : Prop where
 ws : ∀ m : Int,1≤m→m≤5→∃ s : Nat,s≤F.i0∧(rndW F m d).1 = s + F.sgn d.n
 under : (F.cls (rndW F 5 d).1 = 4∧(rndW F 5 d).1 = F.inf true)∨(F.fin (rndW F 5 d).1∧cmpD (F.val (rndW F 5 d).1) d≤0)
 over : (F.cls (rndW F 4 d).1 = 4∧(rndW F 4 d).1 = F.inf false)∨(F.fin (rndW F 4 d).1∧0≤cmpD (F.val (rndW F 4 d).1) d)
 same : (rndW F 5 d).1 = (rndW F 4 d).1→(rndW F 5 d).2 = 0∧(rndW F 4 d).2 = 0∧(rndW F md d).2 = 0∧(rndW F md d).1 = (rndW F 5 d).1∧(rndW F 3 d).1 = (rndW F 5 d).1
 step : (rndW F 5 d).1≠(rndW F 4 d).1→(if (rndW F 5 d).1 % F.sg = 0 then (1,true) else F.up (rndW F 5 d).1) = ((rndW F 4 d).1,true)∧¬ ((rndW F 4 d).1 = F.sg∧(rndW F 4 d).1 = 0)
 flag : ∀ m : Int,1≤m→m≤5→(rndW F 5 d).1≠(rndW F 4 d).1→(rndW F m d).2 = 16∨(rndW F m d).2 = 20∨(rndW F m d).2 = 24
 one : (rndW F 5 d).1≠(rndW F 4 d).1→((rndW F md d).1 = (rndW F 5 d).1∨(rndW F md d).1 = (rndW F 4 d).1)∧((rndW F 3 d).1 = (rndW F 5 d).1↔d.n = false)∧((rndW F 3 d).1 = (rndW F 4 d).1↔d.n = true)
theorem ZIW {F : Fm} {x : Nat} (h : x < F.i0) : (if x % F.sg = 0 then (1,true) else F.up x) = (x + 1,true):=by
 have hi:=ZgS F
 obtain ⟨c1,c2,c3⟩:=Zsr (F:=F) false (Nat.le_of_lt h)
 obtain ⟨e1,e2⟩:=ZeA (F:=F) false (by omega : x < F.sg)
 simp only [Fm.sgn,Bool.false_eq_true,if_false,Nat.add_zero] at c1 c2 c3 e1 e2
 rw [e1]
 by_cases h0 : x = 0
 ·rw [if_pos h0,h0]
 ·rw [if_neg h0]
  unfold Fm.up
  rw [if_neg (fun q => by have:=c2.1 q.1; omega),if_neg (fun q => h0 (c1.1 q)),e2]
  rfl
theorem ZIV {F : Fm} {x : Nat} (h : x < F.i0) : (if (x + 1 + F.sg) % F.sg = 0 then (1,true) else F.up (x + 1 + F.sg)) = (x + F.sg,true):=by
 have hi:=ZgS F
 obtain ⟨c1,c2,c3⟩:=Zsr (F:=F) (s:=x + 1) true (by omega)
 obtain ⟨e1,e2⟩:=ZeA (F:=F) (s:=x + 1) true (by omega)
 simp only [Fm.sgn,if_true] at c1 c2 c3 e1 e2
 rw [e1,if_neg (by omega)]
 unfold Fm.up
 rw [if_neg (fun q => by rw [e2] at q; exact absurd q.2 (by decide)),if_neg (fun q => by have:=c1.1 q; omega),e2,if_pos rfl]
 congr 1; omega
section
variable {F : Fm} {md : Int} {d : Dy} {L : Int} {A : Nat}
theorem Zwa (hL : L≤F.low) (hle : LoE d L) (hd : iv d L = A) (hn : d.n = false) {x : Nat} (hx : x < F.i0)
  (hws : ∀ m : Int,1≤m→m≤5→∃ s : Nat,s≤F.i0∧(rndW F m d).1 = s + F.sgn d.n)
  (E5 : (rndW F 5 d).1 = x) (E4 : (rndW F 4 d).1 = x + 1) (E3 : (rndW F 3 d).1 = x) (E : (rndW F md d).1 = x∨(rndW F md d).1 = x + 1)
  (hf : ∀ m : Int,1≤m→m≤5→(rndW F m d).2 = 16∨(rndW F m d).2 = 20∨(rndW F m d).2 = 24)
  (h1 : magN F x * 2 ^ (F.low - L).toNat≤A) (h2 : x + 1 < F.i0→A≤magN F (x + 1) * 2 ^ (F.low - L).toNat) : Betw F md d:=by
 have hi:=ZgS F
 have s0 : F.sgn false = 0:=rfl
 refine ⟨hws,?_,?_,fun h => ?_,fun _ => ?_,fun m a b _ => hf m a b,fun _ => ?_⟩
 ·right
  have c:=ZnO (F:=F) (s:=x) false hx hL hle
  have fz:=Zjd (F:=F) (s:=x) false hx
  rw [s0,Nat.add_zero] at c fz
  rw [E5]
  refine ⟨fz,?_⟩
  rw [c,hd]
  have : ¬ 0 < sgI ((if false = true then -1 else 1) * ((magN F x * 2 ^ (F.low - L).toNat : Nat) : Int) - (A : Int)):=by
   rw [ZvG]; simp only [Bool.false_eq_true,if_false]; omega
  omega
 ·rw [E4]
  by_cases h3 : x + 1 < F.i0
  ·right
   have c:=ZnO (F:=F) (s:=x + 1) false h3 hL hle
   have fz:=Zjd (F:=F) (s:=x + 1) false h3
   rw [s0,Nat.add_zero] at c fz
   refine ⟨fz,?_⟩
   rw [c,hd]
   have:=h2 h3
   have : ¬ sgI ((if false = true then -1 else 1) * ((magN F (x + 1) * 2 ^ (F.low - L).toNat : Nat) : Int) - (A : Int)) < 0:=by
    rw [ZvF]; simp only [Bool.false_eq_true,if_false]; omega
   omega
  ·left
   have e : x + 1 = F.inf false:=by rw [ZtZ,s0]; omega
   rw [e]; exact ⟨Zqf F false,rfl⟩
 ·rw [E5,E4] at h; omega
 ·rw [E5,E4]; exact ⟨ZIW hx,by omega⟩
 ·rw [E5,E4,E3,hn]
  refine ⟨E,⟨fun _ => rfl,fun _ => rfl⟩,⟨fun h => by omega,fun h => by cases h⟩⟩
theorem ZvZ (hL : L≤F.low) (hle : LoE d L) (hd : iv d L = -(A : Int)) (hn : d.n = true) {x : Nat} (hx : x < F.i0)
  (hws : ∀ m : Int,1≤m→m≤5→∃ s : Nat,s≤F.i0∧(rndW F m d).1 = s + F.sgn d.n)
  (E5 : (rndW F 5 d).1 = x + 1 + F.sg) (E4 : (rndW F 4 d).1 = x + F.sg) (E3 : (rndW F 3 d).1 = x + F.sg) (E : (rndW F md d).1 = x + F.sg∨(rndW F md d).1 = x + 1 + F.sg)
  (hf : ∀ m : Int,1≤m→m≤5→(rndW F m d).2 = 16∨(rndW F m d).2 = 20∨(rndW F m d).2 = 24)
  (h1 : magN F x * 2 ^ (F.low - L).toNat≤A) (h2 : x + 1 < F.i0→A≤magN F (x + 1) * 2 ^ (F.low - L).toNat) : Betw F md d:=by
 have hi:=ZgS F
 have s0 : F.sgn true = F.sg:=rfl
 refine ⟨hws,?_,?_,fun h => ?_,fun _ => ?_,fun m a b _ => hf m a b,fun _ => ?_⟩
 ·rw [E5]
  by_cases h3 : x + 1 < F.i0
  ·right
   have c:=ZnO (F:=F) (s:=x + 1) true h3 hL hle
   have fz:=Zjd (F:=F) (s:=x + 1) true h3
   rw [s0] at c fz
   refine ⟨fz,?_⟩
   rw [c,hd]
   have:=h2 h3
   have : ¬ 0 < sgI ((if true = true then -1 else 1) * ((magN F (x + 1) * 2 ^ (F.low - L).toNat : Nat) : Int) - -(A : Int)):=by
    rw [ZvG]; simp only [if_true]; omega
   omega
  ·left
   have e : x + 1 + F.sg = F.inf true:=by rw [ZtZ,s0]; omega
   rw [e]; exact ⟨Zqf F true,rfl⟩
 ·right
  have c:=ZnO (F:=F) (s:=x) true hx hL hle
  have fz:=Zjd (F:=F) (s:=x) true hx
  rw [s0] at c fz
  rw [E4]
  refine ⟨fz,?_⟩
  rw [c,hd]
  have : ¬ sgI ((if true = true then -1 else 1) * ((magN F x * 2 ^ (F.low - L).toNat : Nat) : Int) - -(A : Int)) < 0:=by
   rw [ZvF]; simp only [if_true]; omega
  omega
 ·rw [E5,E4] at h; omega
 ·rw [E5,E4]; exact ⟨ZIV hx,by omega⟩
 ·rw [E5,E4,E3,hn]
  refine ⟨E.symm,⟨fun h => by omega,fun h => by cases h⟩,⟨fun _ => rfl,fun _ => rfl⟩⟩
theorem ZDO (hL : L≤F.low) (hle : LoE d L) (hd : iv d L = (if d.n then -1 else 1) * (A : Int)) {x : Nat} (hx : x < F.i0)
  (hws : ∀ m : Int,1≤m→m≤5→∃ s : Nat,s≤F.i0∧(rndW F m d).1 = s + F.sgn d.n)
  (E5 : rndW F 5 d = (x + F.sgn d.n,0)) (E4 : rndW F 4 d = (x + F.sgn d.n,0)) (E3 : rndW F 3 d = (x + F.sgn d.n,0)) (E : rndW F md d = (x + F.sgn d.n,0))
  (h1 : magN F x * 2 ^ (F.low - L).toNat = A) : Betw F md d:=by
 have c:=ZnO (F:=F) (s:=x) d.n hx hL hle
 have fz:=Zjd (F:=F) (s:=x) d.n hx
 rw [h1,hd,Int.sub_self] at c
 refine ⟨hws,?_,?_,fun h => ?_,fun h => ?_,fun m a b h => ?_,fun h => ?_⟩
 ·rw [E5]; right; exact ⟨fz,by rw [c]; decide⟩
 ·rw [E4]; right; exact ⟨fz,by rw [c]; decide⟩
 ·rw [E5,E4,E3,E]; exact ⟨rfl,rfl,rfl,rfl,rfl⟩
 ·rw [E5,E4] at h; exact absurd rfl h
 ·rw [E5,E4] at h; exact absurd rfl h
 ·rw [E5,E4] at h; exact absurd rfl h
end
theorem between (F : Fm) {md : Int} (m1 : 1≤md) (m2 : md≤5) {d : Dy} (h0 : d.m≠0) : Betw F md d:=by
 have hi:=ZgS F
 obtain ⟨L,l1,l2⟩ : ∃ L : Int,L < F.low∧L < d.e:=⟨min F.low d.e - 1,by omega,by omega⟩
 obtain ⟨A,U,W,e0,u,ex,S,_⟩:=ZIu F h0 l1 l2
 obtain ⟨b5,f5,r5,g5,R5⟩:=S.all 5 (by decide) (by decide)
 obtain ⟨b4,f4,r4,g4,R4⟩:=S.all 4 (by decide) (by decide)
 obtain ⟨b3,f3,r3,g3,R3⟩:=S.all 3 (by decide) (by decide)
 obtain ⟨b,f,r,g,R⟩:=S.all md m1 m2
 have x5:=R5.b5 rfl
 have x4:=R4.b4 rfl
 have x3:=R3.b3 rfl
 have hw:=S.worth
 have hw1:=S.worth1
 have hlo:=R.lo
 have hhi:=R.hi
 have hex:=R.exi
 have hd : iv d L = (if d.n then -1 else 1) * (A : Int):=by rw [ZHg,S.hA]
 have hle : LoE d L:=Or.inr (by omega)
 have hbig : F.i0≤e0→magN F (F.i0 - 1) * 2 ^ (F.low - L).toNat≤A:=fun h => Nat.le_trans (Nat.mul_le_mul_right _ (ZET F (by omega : F.i0 - 1≤e0))) (by rw [hw]; exact hlo)
 have hovs : ∀ m n,ovs F m n = F.i0 - 1∨ovs F m n = F.i0:=fun m n => by unfold ovs; split <;> omega
 have hws : ∀ m : Int,1≤m→m≤5→∃ s : Nat,s≤F.i0∧(rndW F m d).1 = s + F.sgn d.n:=fun m a1 a2 => by
  obtain ⟨b,f,r,_,_⟩:=S.all m a1 a2
  refine ⟨_,?_,by rw [r]⟩
  split
  ·have:=hovs m d.n; omega
  ·omega
 have hf : (F.i0≤e0∨ex = false)→∀ m : Int,1≤m→m≤5→(rndW F m d).2 = 16∨(rndW F m d).2 = 20∨(rndW F m d).2 = 24:=fun h m a1 a2 => by
  obtain ⟨b,f,r,g,_⟩:=S.all m a1 a2
  rw [r]; simp only
  by_cases q : F.i0≤e0 + b.toNat
  ·rw [if_pos q]; exact Or.inr (Or.inl rfl)
  ·rw [if_neg q]
   have : ex = false:=h.resolve_left (by omega)
   rw [this]; simp only [Bool.false_eq_true,if_false]; omega
 by_cases hb : F.i0≤e0
 ·have t : ∀ b : Bool,F.i0≤e0 + b.toNat:=fun b => by omega
  rw [if_pos (t b5)] at r5
  rw [if_pos (t b4)] at r4
  rw [if_pos (t b3)] at r3
  rw [if_pos (t b)] at r
  cases hn : d.n
  ·rw [hn] at r5 r4 r3 r hd
   have o5 : ovs F 5 false = F.i0 - 1:=by simp [ovs]
   have o4 : ovs F 4 false = F.i0:=by simp [ovs]
   have o3 : ovs F 3 false = F.i0 - 1:=by simp [ovs]
   refine Zwa (x:=F.i0 - 1) (by omega) hle (by rw [hd]; simp) hn (by omega) hws (by rw [r5,o5]; rfl) (by rw [r4,o4]; simp only [Fm.sgn,Bool.false_eq_true,if_false]; omega) (by rw [r3,o3]; rfl) ?_ (hf (Or.inl hb)) (hbig hb) (fun h => by omega)
   rw [r]; simp only [Fm.sgn,Bool.false_eq_true,if_false]
   have:=hovs md false; omega
  ·rw [hn] at r5 r4 r3 r hd
   have o5 : ovs F 5 true = F.i0:=by simp [ovs]
   have o4 : ovs F 4 true = F.i0 - 1:=by simp [ovs]
   have o3 : ovs F 3 true = F.i0 - 1:=by simp [ovs]
   refine ZvZ (x:=F.i0 - 1) (by omega) hle (by rw [hd]; simp) hn (by omega) hws (by rw [r5,o5]; simp only [Fm.sgn,if_true]; omega) (by rw [r4,o4]; rfl) (by rw [r3,o3]; rfl) ?_ (hf (Or.inl hb)) (hbig hb) (fun h => by omega)
   rw [r]; simp only [Fm.sgn,if_true]
   have:=hovs md true; omega
 ·cases hx : ex
  ·subst hx
   have hw1:=hw1 rfl
   have hup : A≤magN F (e0 + 1) * 2 ^ (F.low - L).toNat:=by rw [hw1]; omega
   have hdn : magN F e0 * 2 ^ (F.low - L).toNat≤A:=by rw [hw]; exact hlo
   cases hn : d.n
   ·rw [hn] at r5 r4 r3 r hd x5 x4
    subst x5 x4 x3
    have o4 : ovs F 4 false = F.i0:=by simp [ovs]
    refine Zwa (x:=e0) (by omega) hle (by rw [hd]; simp) hn (by omega) hws (by rw [r5]; simp [hb,Fm.sgn]) ?_ (by rw [r3]; simp [hb,Fm.sgn]) ?_ (hf (Or.inr rfl)) hdn (fun _ => hup)
    ·rw [r4]; simp only [o4,Bool.not_false,Bool.and_self,Bool.toNat_true,Fm.sgn,Bool.false_eq_true,if_false]; split <;> omega
    ·rw [r]
     cases b
     ·left; simp [hb,Fm.sgn]
     ·right
      have m3 : md≠3:=fun h => by have:=R.b3 h; cases this
      have m5 : md≠5:=fun h => by have:=R.b5 h; rw [hn] at this; cases this
      have o : ovs F md false = F.i0:=by simp [ovs,m3,m5]
      simp only [o,Bool.toNat_true,Fm.sgn,Bool.false_eq_true,if_false]; split <;> omega
   ·rw [hn] at r5 r4 r3 r hd x5 x4
    subst x5 x4 x3
    have o5 : ovs F 5 true = F.i0:=by simp [ovs]
    refine ZvZ (x:=e0) (by omega) hle (by rw [hd]; simp) hn (by omega) hws ?_ (by rw [r4]; simp [hb,Fm.sgn]) (by rw [r3]; simp [hb,Fm.sgn]) ?_ (hf (Or.inr rfl)) hdn (fun _ => hup)
    ·rw [r5]; simp only [o5,Bool.not_false,Bool.and_self,Bool.toNat_true,Fm.sgn,if_true]; split <;> omega
    ·rw [r]
     cases b
     ·left; simp [hb,Fm.sgn]
     ·right
      have m3 : md≠3:=fun h => by have:=R.b3 h; cases this
      have m4 : md≠4:=fun h => by have:=R.b4 h; rw [hn] at this; cases this
      have o : ovs F md true = F.i0:=by simp [ovs,m3,m4]
      simp only [o,Bool.toNat_true,Fm.sgn,if_true]; split <;> omega
  ·subst hx
   have y5:=R5.xb rfl
   have y4:=R4.xb rfl
   have y:=R.xb rfl
   subst y5 y4 y x3
   refine ZDO (x:=e0) (by omega) hle hd (by omega) hws (by rw [r5]; simp [hb]) (by rw [r4]; simp [hb]) (by rw [r3]; simp [hb]) (by rw [r]; simp [hb]) ?_
   rw [hw]; exact (hex.1 rfl).symm
end Go.Cv
namespace Go.Cv
variable {G : Nat→Option (List AV)} {T : Tbl} {g : Nat}
theorem ZGn {F : Fm} {s : Nat} (n : Bool) (h : s≤F.i0) : s + F.sgn n < 2 * F.sg:=by
 have:=ZgS F
 unfold Fm.sgn; split <;> omega
def rndS (F : Fm) (m : Int) (d : Dy) : Nat:=if d.m = 0 then 0 else
 if F.wide < blen (rnd m d.n d.m d.e (F.eOf (d.e + blen d.m))).1 + F.eOf (d.e + blen d.m) then ovs F m d.n else F.enc (rnd m d.n d.m d.e (F.eOf (d.e + blen d.m))).1 (F.eOf (d.e + blen d.m))
theorem ZDx (F : Fm) (m : Int) {d : Dy} (h0 : d.m≠0) : (rndW F m d).1 = rndS F m d + F.sgn d.n:=by
 unfold rndW rndS wordOf
 rw [if_neg h0,if_neg h0]
 simp only
 split
 ·rw [ZwM]
 ·rfl
theorem ZFC (F : Fm) {m : Int} (m1 : 1≤m) (m2 : m≤5) {d : Dy} (h0 : d.m≠0) : rndS F m d≤F.i0:=by
 obtain ⟨s,h1,h2⟩:=(between F (md:=1) (by decide) (by decide) h0).ws m m1 m2
 rw [ZDx F m h0] at h2; omega
theorem ZHL {d : Dy} (h0 : d.m≠0) : negD d = ⟨!d.n,d.m,d.e⟩:=by unfold negD; rw [if_neg h0]
theorem ZuA (F : Fm) (m : Int) {s : Nat} (n : Bool) (h : s < F.i0) (h0 : s≠0) : rndW F m (F.val (s + F.sgn n)) = (s + F.sgn n,0)∧(F.val (s + F.sgn n)).m≠0:=by
 have hi:=ZgS F
 have hF:=ZbH F
 obtain ⟨e1,e2⟩:=ZeA n (by omega : s < F.sg)
 have hp:=Nat.two_pow_pos F.fr
 have hd:=Nat.div_add_mod s (2 ^ F.fr)
 have hm:=Nat.mod_lt s hp
 obtain ⟨k,u,hk0,hk1,hu,hku,hv,hs⟩ : ∃ (k : Nat) (u : Int),k≠0∧k < 2 ^ (F.fr + 1)∧F.low≤u∧(u = F.low∨2 ^ F.fr≤k)∧F.val (s + F.sgn n) = mkD n k u∧F.enc k u = s:=by
  unfold Fm.val Fm.ex Fm.fc
  rw [e1,e2]
  by_cases hx : s / 2 ^ F.fr = 0
  ·rw [if_pos hx]
   rw [hx,Nat.mul_zero,Nat.zero_add] at hd
   refine ⟨s % 2 ^ F.fr,F.low,by omega,by rw [Nat.pow_succ]; omega,Int.le_refl _,Or.inl rfl,rfl,?_⟩
   unfold Fm.enc; rw [Int.sub_self]; simpa using hd
  ·rw [if_neg hx]
   have hx1 : 1≤s / 2 ^ F.fr:=Nat.pos_of_ne_zero hx
   refine ⟨2 ^ F.fr + s % 2 ^ F.fr,(s / 2 ^ F.fr : Nat) - 1 + F.low,by omega,by rw [Nat.pow_succ]; omega,by generalize s / 2 ^ F.fr = Q at *; omega,Or.inr (by omega),rfl,?_⟩
   unfold Fm.enc
   rw [show ((s / 2 ^ F.fr : Nat) - 1 + F.low - F.low : Int).toNat = s / 2 ^ F.fr - 1 by generalize s / 2 ^ F.fr = Q at *; omega,Nat.sub_mul,Nat.one_mul,Nat.mul_comm]
   have : 2 ^ F.fr * 1≤2 ^ F.fr * (s / 2 ^ F.fr):=Nat.mul_le_mul_left _ hx1
   rw [Nat.mul_one] at this; omega
 rw [hv]
 have hne:=ZlH (n:=n) hk0 u
 refine ⟨?_,hne⟩
 have hb:=ZpH (n:=n) hk0 u
 have hbk:=Zaf.2 hk1
 have hE : F.eOf ((mkD n k u).e + blen (mkD n k u).m) = u:=by
  unfold Fm.eOf
  rw [hb]
  rcases hku with h1 | h1
  ·omega
  ·have:=Zbn.2 h1; omega
 have hr : rnd m (mkD n k u).n (mkD n k u).m (mkD n k u).e u = (k,true):=by
  have hle : u≤(mkD n k u).e:=by rw [Zal hk0]; simp only; omega
  unfold rnd
  rw [if_pos hle,ZsJ hk0 (Int.le_refl u),Int.sub_self]; simp
 unfold rndW
 rw [if_neg hne]
 simp only
 rw [hE,hr]
 unfold wordOf
 have hbig:=Zqp F (n:=k) (u:=u) (by omega) hu hku
 rw [hs] at hbig
 rw [if_neg (fun q => by have:=hbig.1 q; omega),hs,ZEZ hk0]
 simp
theorem Zxq (F : Fm) (n : Bool) : F.val (0 + F.sgn n) = ⟨false,0,0⟩:=by
 have hi:=ZgS F
 obtain ⟨e1,e2⟩:=ZeA (F:=F) (s:=0) n (by omega)
 unfold Fm.val Fm.ex Fm.fc
 rw [e1]; simp [ZdN]
theorem ZxZ {F : Fm} {w : Nat} (h : w < 2 * F.sg) : ∃ s n,w = s + F.sgn n∧s < F.sg∧(F.fin w→s < F.i0)∧(w = F.sg↔s = 0∧n = true):=by
 have hi:=ZgS F
 refine ⟨w % F.sg,F.ng w,?_,Nat.mod_lt _ hi.2.2.1,fun hf => ?_,?_⟩
 ·unfold Fm.ng Fm.sgn
  by_cases h1 : F.sg≤w
  ·rw [decide_eq_true h1,if_pos rfl,Nat.mod_eq_sub_mod h1,Nat.mod_eq_of_lt (by omega)]; omega
  ·rw [decide_eq_false h1,if_neg (by decide),Nat.mod_eq_of_lt (by omega)]; rfl
 ·unfold Fm.fin Fm.ex at hf
  unfold Fm.i0
  have:=Nat.div_add_mod (w % F.sg) (2 ^ F.fr)
  have h2:=Nat.mod_lt (w % F.sg) (Nat.two_pow_pos F.fr)
  have h3 : (w % F.sg / 2 ^ F.fr + 1) * 2 ^ F.fr≤F.most * 2 ^ F.fr:=Nat.mul_le_mul_right _ hf
  rw [Nat.add_mul,Nat.one_mul,Nat.mul_comm] at h3
  omega
 ·unfold Fm.ng
  constructor
  ·intro e; rw [e,Nat.mod_self]; exact ⟨rfl,decide_eq_true (Nat.le_refl _)⟩
  ·rintro ⟨h1,h2⟩
   simp only [decide_eq_true_eq] at h2
   rw [Nat.mod_eq_sub_mod h2,Nat.mod_eq_of_lt (by omega)] at h1; omega
theorem ZBe (F : Fm) (u : Int) {a b : Nat} (h : a≤b) : F.enc a u≤F.enc b u:=by unfold Fm.enc; omega
theorem ZwV (F : Fm) {m : Int} {d : Dy} (h0 : d.m≠0) :
  rndS F m d = if F.i0≤F.enc (rnd m d.n d.m d.e (F.eOf (d.e + blen d.m))).1 (F.eOf (d.e + blen d.m)) then ovs F m d.n else F.enc (rnd m d.n d.m d.e (F.eOf (d.e + blen d.m))).1 (F.eOf (d.e + blen d.m)):=by
 obtain ⟨q1,q2,_,_⟩:=Zor F (md:=m) h0
 have hu : F.low≤F.eOf (d.e + blen d.m):=by unfold Fm.eOf; omega
 have hb:=Zqp F q1 hu q2
 unfold rndS
 rw [if_neg h0]
 by_cases h : F.wide < blen (rnd m d.n d.m d.e (F.eOf (d.e + blen d.m))).1 + F.eOf (d.e + blen d.m)
 ·rw [if_pos h,if_pos (hb.1 h)]
 ·rw [if_neg h,if_neg (fun q => h (hb.2 q))]
theorem ZzQ (F : Fm) (m : Int) {a b : Dy} (ha : a.m≠0) (hb : b.m≠0) (hn : a.n = b.n) {L : Int} (la : L < a.e) (lb : L < b.e) (ll : L < F.low)
  (h : b.m * 2 ^ (b.e - L).toNat≤a.m * 2 ^ (a.e - L).toNat) : rndS F m b≤rndS F m a:=by
 have hi:=ZgS F
 have ta:=Zav ha (a.e - L).toNat
 have tb:=Zav hb (b.e - L).toNat
 have ht:=Zap h
 have hu : F.eOf (b.e + blen b.m)≤F.eOf (a.e + blen a.m):=by unfold Fm.eOf; omega
 have ha0 : F.low≤F.eOf (a.e + blen a.m):=by unfold Fm.eOf; omega
 have hb0 : F.low≤F.eOf (b.e + blen b.m):=by unfold Fm.eOf; omega
 obtain ⟨p1,p2,_,_⟩:=Zor F (md:=m) ha
 obtain ⟨q1,q2,_,_⟩:=Zor F (md:=m) hb
 have he : F.enc (rnd m b.n b.m b.e (F.eOf (b.e + blen b.m))).1 (F.eOf (b.e + blen b.m))≤F.enc (rnd m a.n a.m a.e (F.eOf (a.e + blen a.m))).1 (F.eOf (a.e + blen a.m)):=by
  by_cases hq : F.eOf (b.e + blen b.m) = F.eOf (a.e + blen a.m)
  ·rw [hq]
   apply ZBe
   rw [ZFD m a.n a.m (L:=L) (by omega) (by omega),ZFD m b.n b.m (L:=L) (by omega) (by omega),hn]
   exact ZCh m b.n h (by omega)
  ·rcases p2 with p2 | p2
   ·exfalso; omega
   ·unfold Fm.enc
    rw [Nat.pow_succ] at q1
    obtain ⟨j,hj⟩ : ∃ j,(F.eOf (b.e + blen b.m) - F.low).toNat = j:=⟨_,rfl⟩
    obtain ⟨k,hk⟩ : ∃ k,(F.eOf (a.e + blen a.m) - F.low).toNat = k:=⟨_,rfl⟩
    rw [hj,hk]
    have h5 : (j + 1) * 2 ^ F.fr≤k * 2 ^ F.fr:=Nat.mul_le_mul_right _ (by omega)
    rw [Nat.add_mul,Nat.one_mul] at h5
    omega
 rw [ZwV F ha,ZwV F hb,hn]
 rw [hn] at he
 have ho : ovs F m b.n = F.i0 - 1∨ovs F m b.n = F.i0:=by unfold ovs; split <;> omega
 split <;> split <;> omega
theorem ZwW (F : Fm) {m : Int} (m1 : 1≤m) (m2 : m≤5) (d : Dy) : ∃ s n,(rndW F m d).1 = s + F.sgn n∧s≤F.i0∧s = rndS F m d∧(d.m = 0→s = 0∧n = false)∧(d.m≠0→n = d.n):=by
 by_cases h0 : d.m = 0
 ·refine ⟨0,false,?_,Nat.zero_le _,?_,fun _ => ⟨rfl,rfl⟩,fun h => absurd h0 h⟩
  ·unfold rndW; rw [if_pos h0]; rfl
  ·unfold rndS; rw [if_pos h0]
 ·exact ⟨rndS F m d,d.n,ZDx F m h0,ZFC F m1 m2 h0,rfl,fun h => absurd h h0,fun _ => rfl⟩
theorem ZDs (F : Fm) (a b : Dy) : ∃ L : Int,L < F.low∧L < a.e∧L < b.e:=⟨min F.low (min a.e b.e) - 1,by omega,by omega,by omega⟩
theorem ZrJ {d : Dy} {L : Int} (h : L < d.e) : LoE d L:=Or.inr (by omega)
theorem ZEp (a b : Dy) : cmpD b a = -cmpD a b:=by
 obtain ⟨L,l1,l2,l3⟩:=ZDs .s a b
 rw [Zpo (ZrJ l2) (ZrJ l3),Zpo (ZrJ l3) (ZrJ l2)]
 unfold sgI
 repeat' split
 all_goals omega
theorem ZpA (a b : Dy) : cmpD a b = -1∨cmpD a b = 0∨cmpD a b = 1:=by
 obtain ⟨L,l1,l2,l3⟩:=ZDs .s a b
 rw [Zpo (ZrJ l2) (ZrJ l3)]
 unfold sgI
 repeat' split
 all_goals omega
theorem Zwm {l : List Nat} {i d : Nat} (h : i < l.length) : (l.set i d).drop i = d :: l.drop (i + 1):=by
 rw [ZfB (by rw [List.length_set]; exact h),ZDj h,List.drop_set_of_lt (Nat.lt_succ_self i)]
theorem Zsc {L l : List Nat} {d r j : Nat} (hj : j < L.length) (hl : l.length = L.length) (h : val (L.drop (j + 1)) = val (l.drop (j + 1)) * d + r) :
  val (L.drop j) = val ((l.set j ((r * 4294967296 + dg L j) / d)).drop j) * d + (r * 4294967296 + dg L j) % d:=by
 rw [ZfB hj,Zwm (by omega),ZaD,ZaD,h]
 have:=Nat.div_add_mod (r * 4294967296 + dg L j) d
 generalize (r * 4294967296 + dg L j) / d = q at *
 generalize (r * 4294967296 + dg L j) % d = m at *
 rw [Nat.mul_add,Nat.add_mul,Nat.mul_assoc,Nat.mul_comm q d]
 generalize val (l.drop (j + 1)) * d = x at *
 omega
theorem Ztj {d r x : Nat} (hr : r < d) (hx : x < 4294967296) : (r * 4294967296 + x) / d < 4294967296:=by
 rw [Nat.div_lt_iff_lt_mul (by omega)]
 calc r * 4294967296 + x < (r + 1) * 4294967296:=by omega
  _≤d * 4294967296:=Nat.mul_le_mul_right _ hr
  _ = 4294967296 * d:=Nat.mul_comm ..
theorem ZpO {r x : Nat} (hr : r < 4294967296) (hx : x < 4294967296) : orI .u64 ((r : Int) * 4294967296 % 18446744073709551616) (x : Int) = ((r * 4294967296 + x : Nat) : Int):=by
 have e : (r : Int) * 4294967296 % 18446744073709551616 = ((r * 4294967296 : Nat) : Int):=by omega
 rw [e,or64 (by omega) (by omega),Nat.or_comm,show (4294967296 : Nat) = 2 ^ 32 from rfl,ZmX hx,Nat.add_comm]
theorem Zpn {L : List Nat} {z : Bool} {d b : Nat} (hL : Dg L) (h0 : 0 < d) (hd : d < 4294967296) (hb : L.length < 17179869184) : ∀ (j r : Nat) (h : Heap) (l : List Nat),
  j≤L.length→Holds h b l→Dg l→l.length = L.length→r < d→val (L.drop j) = val (l.drop j) * d + r →
  Post (evL G T ZcZ [(0,D z L),(1,.int .u32 (d : Int)),(6,.own b 0 L.length 1),(7,.int .u64 (r : Int)),(8,.int .i64 ((j : Int) - 1))] h) fun x =>
   ∃ e h' l' r',x = (.exit 0,(0,D z L) :: (1,.int .u32 (d : Int)) :: (6,.own b 0 L.length 1) :: (7,.int .u64 ((r' : Nat) : Int)) :: e,h')∧Holds h' b l'∧Dg l'∧l'.length = L.length∧r' < d∧val L = val l' * d + r'
 | 0,r,h,l,hj,H,hd1,hl,hr,he => by
  rw [Zae G T (c:=ZcZ) rfl]
  have h1 : ¬ (0 : Int)≤((0 : Nat) : Int) - 1:=by omega
  repeat (first | simp only [seval,evB,Zfg,h1] | simp (disch:=omega) only [dsB])
  exact Post.some ⟨_,_,_,_,rfl,H,hd1,hl,hr,by simpa using he⟩
 | j + 1,r,h,l,hj,H,hd1,hl,hr,he => by
  rw [Zae G T (c:=ZcZ) rfl]
  have e1 : ((j + 1 : Nat) : Int) - 1 = (j : Int):=by omega
  have h1 : (0 : Int)≤(j : Int):=by omega
  have hx:=hL.dg j
  have w1 : (dg L j : Int) % 18446744073709551616 = dg L j:=by omega
  have w2:=ZpO (r:=r) (x:=dg L j) (by omega) hx
  have w3 : (d : Int) % 18446744073709551616 = d:=by omega
  have hq:=Ztj hr hx
  have hm:=Nat.mod_lt (r * 4294967296 + dg L j) h0
  generalize hQ : (r * 4294967296 + dg L j) / d = Q at *
  have w4 : ((r * 4294967296 + dg L j : Nat) : Int).tdiv (d : Int) = (Q : Int):=by rw [← hQ]; rfl
  have w5 : ((r * 4294967296 + dg L j : Nat) : Int).tmod (d : Int) = (((r * 4294967296 + dg L j) % d : Nat) : Int):=rfl
  have w6 : (Q : Int) % 18446744073709551616 = Q:=by omega
  have w7 : (Q : Int) % 4294967296 = Q:=by omega
  have hs:=Zsc (L:=L) (l:=l) (d:=d) (r:=r) (j:=j) (by omega) hl he
  rw [hQ] at hs
  have h2 : ¬ (d : Int) = 0:=by omega
  rw [e1]
  repeat (first | simp only [seval,evB,Zfg,h1,w1,w2,w3,w4,w5,w6,w7,h2 ] | simp (disch:=omega) only [dsB,ZcU H])
  exact Zpn hL h0 hd hb j _ _ _ (by omega) (H.put _) (ZeB hd1 hq) (by rw [List.length_set]; exact hl) hm hs
theorem Zlz {V A d r : Nat} (hr : r < d) (h : V = A * d + r) : A = V / d∧r = V % d:=by
 subst h
 constructor
 ·rw [Nat.mul_comm,Nat.mul_add_div (by omega),Nat.div_eq_of_lt hr]; rfl
 ·rw [Nat.mul_comm,Nat.mul_add_mod,Nat.mod_eq_of_lt hr]
theorem Zlc (J : Al G T g) {z : Bool} {a d : Nat} (h0 : 0 < d) (hd : d < 4294967296) (hb : (dl a).length < 17179869184) :
  ∃ z1 z2,run G T 110 [D z (dl a),.int .u32 (d : Int)] = some (.tup [D z1 (dl (a / d)),D z2 (dl (a % d))]):=by
 have hL:=Zao a
 obtain ⟨x,hr,e,h',l',r',rfl,H,hd1,hl,hr1,hv⟩:=Zpn (G:=G) (T:=T) (z:=z) (d:=d) (b:=Heap.nil.b.length) hL h0 hd (by omega) (dl a).length 0 (new .nil (List.replicate (dl a).length 0)) _ (Nat.le_refl _) (ZbA FreH.nil _) (ZjF _) (by rw [List.length_replicate]) h0 (by rw [List.drop_length,List.drop_eq_nil_of_le (by rw [List.length_replicate]; exact Nat.le_refl _)]; simp [val])
 rw [cast0] at hr
 rw [ZaE] at hv
 obtain ⟨e1,e2⟩:=Zlz hr1 hv
 have hsn:=Zch H (n:=(dl a).length) (by omega)
 rw [← hl,List.take_length] at hsn
 obtain ⟨z1,hz1⟩:=ZcQ J (z:=false) hd1 (by omega)
 obtain ⟨z2,hz2⟩:=Zjh J (n:=r') (by omega)
 rw [hl] at hsn
 refine ⟨z1,z2,?_⟩
 rw [Zab G T J.B.Zlc,← e1,← e2]
 repeat (first | simp only [seval,evB,Zff,hr,hsn,hz1,hz2] | simp (disch:=omega) only [dsB])
theorem ZoG (J : Al G T g) {r x d : Nat} (hr : r < d) (hx : x < 4294967296) (hd : d < 4294967296) :
  run G T 118 [.int .u32 (r : Int),.int .u32 (x : Int),.int .u32 (d : Int)] = some (.tup [.int .u32 (((r * 4294967296 + x) / d : Nat) : Int),.int .u32 (((r * 4294967296 + x) % d : Nat) : Int)]):=by
 rw [Zab G T J.A.ZoG]
 have w0 : (r : Int) % 18446744073709551616 = r:=by omega
 have w1 : (x : Int) % 18446744073709551616 = x:=by omega
 have w2:=ZpO (r:=r) (x:=x) (by omega) hx
 have w3 : (d : Int) % 18446744073709551616 = d:=by omega
 have hq:=Ztj hr hx
 have hm:=Nat.mod_lt (r * 4294967296 + x) (y:=d) (by omega)
 have h2 : ¬ (d : Int) = 0:=by omega
 have h3 : ¬ (d : Int)≤r:=by omega
 have w4 : ((r * 4294967296 + x : Nat) : Int).tdiv (d : Int) = (((r * 4294967296 + x) / d : Nat) : Int):=rfl
 have w5 : ((r * 4294967296 + x : Nat) : Int).tmod (d : Int) = (((r * 4294967296 + x) % d : Nat) : Int):=rfl
 generalize (r * 4294967296 + x) / d = Q at *
 generalize (r * 4294967296 + x) % d = R at *
 have w6 : (Q : Int) % 18446744073709551616 = Q:=by omega
 have w7 : (Q : Int) % 4294967296 = Q:=by omega
 have w9 : (R : Int) % 4294967296 = R:=by omega
 repeat (first | simp only [seval,evB,Ziz,w0,w1,w2,w3,w4,w5,w6,w7,w9,h2,h3] | simp (disch:=omega) only [dsB])
theorem Zsb (J : Al G T g) {L : List Nat} {z : Bool} {d b : Nat} (hL : Dg L) (h0 : 0 < d) (hd : d < 4294967296) (hb : L.length < 17179869184) : ∀ (j r : Nat) (h : Heap) (l : List Nat),
  j≤L.length→Holds h b l→Dg l→l.length = L.length→r < d→val (L.drop j) = val (l.drop j) * d + r →
  Post (evL G T Zgf [(0,D z L),(1,.int .u32 (d : Int)),(6,.own b 0 L.length 1),(7,.int .u32 (r : Int)),(8,.int .i64 ((j : Int) - 1))] h) fun x =>
   ∃ e h' l' r',x = (.exit 0,(0,D z L) :: (1,.int .u32 (d : Int)) :: (6,.own b 0 L.length 1) :: (7,.int .u32 ((r' : Nat) : Int)) :: e,h')∧Holds h' b l'∧Dg l'∧l'.length = L.length∧r' < d∧val L = val l' * d + r'
 | 0,r,h,l,hj,H,hd1,hl,hr,he => by
  rw [Zae G T (c:=Zgf) rfl]
  have h1 : ¬ (0 : Int)≤((0 : Nat) : Int) - 1:=by omega
  repeat (first | simp only [seval,evB,Zjt,h1] | simp (disch:=omega) only [dsB])
  exact Post.some ⟨_,_,_,_,rfl,H,hd1,hl,hr,by simpa using he⟩
 | j + 1,r,h,l,hj,H,hd1,hl,hr,he => by
  rw [Zae G T (c:=Zgf) rfl]
  have e1 : ((j + 1 : Nat) : Int) - 1 = (j : Int):=by omega
  have h1 : (0 : Int)≤(j : Int):=by omega
  have hx:=hL.dg j
  have hc:=ZoG (G:=G) J hr hx hd
  have hs:=Zsc (L:=L) (l:=l) (d:=d) (r:=r) (j:=j) (by omega) hl he
  have hq:=Ztj hr hx
  have hm:=Nat.mod_lt (r * 4294967296 + dg L j) h0
  rw [e1]
  repeat (first | simp only [seval,evB,Zjt,h1,hc ] | simp (disch:=omega) only [dsB,ZcU H])
  exact Zsb J hL h0 hd hb j _ _ _ (by omega) (H.put _) (ZeB hd1 hq) (by rw [List.length_set]; exact hl) hm hs
theorem ZqM (J : Al G T g) {z : Bool} {a d : Nat} (h0 : 0 < d) (hd : d < 4294967296) (hb : (dl a).length < 17179869184) :
  ∃ z1,run G T 108 [D z (dl a),.int .u32 (d : Int)] = some (.tup [D z1 (dl (a / d)),.int .u32 ((a % d : Nat) : Int)]):=by
 have hL:=Zao a
 obtain ⟨x,hr,e,h',l',r',rfl,H,hd1,hl,hr1,hv⟩:=Zsb (G:=G) J (z:=z) (d:=d) (b:=Heap.nil.b.length) hL h0 hd (by omega) (dl a).length 0 (new .nil (List.replicate (dl a).length 0)) _ (Nat.le_refl _) (ZbA FreH.nil _) (ZjF _) (by rw [List.length_replicate]) h0 (by rw [List.drop_length,List.drop_eq_nil_of_le (by rw [List.length_replicate]; exact Nat.le_refl _)]; simp [val])
 rw [cast0] at hr
 rw [ZaE] at hv
 obtain ⟨e1,e2⟩:=Zlz hr1 hv
 have hsn:=Zch H (n:=(dl a).length) (by omega)
 rw [← hl,List.take_length] at hsn
 obtain ⟨z1,hz1⟩:=Zcg J (z:=false) hd1 (by omega)
 rw [hl] at hsn
 refine ⟨z1,?_⟩
 rw [Zab G T J.A.ZqM,← e1,← e2]
 repeat (first | simp only [seval,evB,Zkx,hr,hsn,hz1] | simp (disch:=omega) only [dsB])
theorem ZnB {l : List Nat} {j : Nat} (d : Nat) (h : j < l.length) : val (l.set j d) + 4294967296 ^ j * dg l j = val l + 4294967296 ^ j * d:=by
 induction l generalizing j with
 | nil => exact absurd h (Nat.not_lt_zero _)
 | cons a l ih =>
  cases j with
  | zero =>
   have e : dg (a :: l) 0 = a:=by rw [Zhg (by simp)]; rfl
   rw [List.set_cons_zero,ZaD,ZaD,e,Nat.pow_zero]; omega
  | succ j =>
   have h2 : j < l.length:=by simpa using h
   have e : dg (a :: l) (j + 1) = dg l j:=by rw [Zhg h,Zhg h2]; rfl
   have:=ih h2
   rw [List.set_cons_succ,ZaD,ZaD,e,Nat.pow_succ]
   have e2 : ∀ x,4294967296 ^ j * 4294967296 * x = 4294967296 * (4294967296 ^ j * x):=fun x => by rw [Nat.mul_comm (4294967296 ^ j),Nat.mul_assoc]
   rw [e2,e2]
   omega
theorem Zql {l : List Nat} {i j d : Nat} (h : i≠j) : dg (l.set i d) j = dg l j:=by
 by_cases hj : j < l.length
 ·rw [Zhg (by rw [List.length_set]; exact hj),Zhg hj,List.getElem_set_ne h]
 ·rw [ZkW (by rw [List.length_set]; omega),ZkW (by omega)]
theorem Zzs {x y o c : Nat} (hx : x < 4294967296) (hy : y < 4294967296) (ho : o < 4294967296) (hc : c < 4294967296) : x * y + o + c < 18446744073709551616:=by
 have : x * y≤4294967295 * 4294967295:=Nat.mul_le_mul (by omega) (by omega)
 omega
theorem ZFc {A l0 l : List Nat} {i k x c V : Nat} (hk : i + k < l.length) (he : val l + 4294967296 ^ (i + k) * c = V + 4294967296 ^ i * (x * val (A.take k))) :
  val (l.set (i + k) ((x * dg A k + dg l (i + k) + c) % 4294967296)) + 4294967296 ^ (i + (k + 1)) * ((x * dg A k + dg l (i + k) + c) / 4294967296) = V + 4294967296 ^ i * (x * val (A.take (k + 1))):=by
 have h1:=ZnB ((x * dg A k + dg l (i + k) + c) % 4294967296) hk
 have h2:=Nat.mod_add_div (x * dg A k + dg l (i + k) + c) 4294967296
 rw [Zad,Nat.mul_add,Nat.mul_add,← Nat.add_assoc V,← he,← Nat.add_assoc,Nat.pow_succ]
 generalize (x * dg A k + dg l (i + k) + c) % 4294967296 = m at *
 generalize (x * dg A k + dg l (i + k) + c) / 4294967296 = q at *
 have e1 : 4294967296 ^ i * (x * (4294967296 ^ k * dg A k)) = 4294967296 ^ (i + k) * (x * dg A k):=by
  rw [Nat.pow_add,Nat.mul_left_comm x,Nat.mul_assoc]
 rw [e1]
 generalize 4294967296 ^ (i + k) = p at *
 rw [Nat.mul_assoc]
 have h3 : p * m + p * (4294967296 * q) = p * (x * dg A k) + p * dg l (i + k) + p * c:=by rw [← Nat.mul_add,h2,Nat.mul_add,Nat.mul_add]
 omega
theorem Zuj {B : List Nat} {zb : Bool} {i x b n : Nat} {va : AV} {na : Int} (hB : Dg B) (hx : x < 4294967296) (hs : n < 549755813888) (hn : i + B.length < n) (V : Nat) : ∀ (m k : Nat) (h : Heap) (l : List Nat) (c : Nat),
  m + k = B.length→Holds h b l→Dg l→l.length = n→c < 4294967296→(∀ j,i + B.length≤j→dg l j = 0)→val l + 4294967296 ^ (i + k) * c = V + 4294967296 ^ i * (x * val (B.take k)) →
  Post (evL G T ZiK [(1,D zb B),(5,.own b 0 n 1),(6,.int .i64 (i : Int)),(7,.int .u32 (x : Int)),(8,.int .u64 (c : Int)),(18,va),(19,.int .i64 na),(20,.int .i64 (i : Int)),(25,D zb B),(26,.int .i64 ((B.length : Nat) : Int)),(27,.int .i64 (k : Int))] h) fun r =>
   ∃ e h' l' c',r = (.exit 2,(1,D zb B) :: (5,.own b 0 n 1) :: (6,.int .i64 (i : Int)) :: (7,.int .u32 (x : Int)) :: (8,.int .u64 ((c' : Nat) : Int)) :: (18,va) :: (19,.int .i64 na) :: (20,.int .i64 (i : Int)) :: (25,D zb B) :: (26,.int .i64 ((B.length : Nat) : Int)) :: (27,.int .i64 ((B.length : Nat) : Int)) :: e,h') ∧
    Holds h' b l'∧Dg l'∧l'.length = n∧c' < 4294967296∧(∀ j,i + B.length≤j→dg l' j = 0)∧val l' + 4294967296 ^ (i + B.length) * c' = V + 4294967296 ^ i * (x * val B)
 | 0,k,h,l,c,hm,H,hd,hl,hc,hz,he => by
  rw [Zae G T (c:=ZiK) rfl]
  have h1 : ¬ (k : Int) < B.length:=by omega
  repeat (first | simp only [seval,evB,Zlw,h1] | simp (disch:=omega) only [dsB])
  obtain rfl : k = B.length:=by omega
  rw [List.take_length] at he
  exact Post.some ⟨_,_,_,_,rfl,H,hd,hl,hc,hz,he⟩
 | m + 1,k,h,l,c,hm,H,hd,hl,hc,hz,he => by
  rw [Zae G T (c:=ZiK) rfl]
  have h1 : (k : Int) < B.length:=by omega
  have e7 : (k : Int) + 1 = ((k + 1 : Nat) : Int):=by omega
  have e8 : (i : Int) + (k : Int) = ((i + k : Nat) : Int):=by omega
  have hy:=hB.dg k
  have ho:=hd.dg (i + k)
  have hik : i + k < l.length:=by omega
  have w1 : (x : Int) % 18446744073709551616 = x:=by omega
  have w2 : (dg B k : Int) % 18446744073709551616 = dg B k:=by omega
  have w3 : (dg l (i + k) : Int) % 18446744073709551616 = dg l (i + k):=by omega
  have hM:=Zzs hx hy ho hc
  have key:=ZFc (l0:=l) (A:=B) (x:=x) hik he
  have w4 : (x : Int) * (dg B k : Int) = ((x * dg B k : Nat) : Int):=by rw [Int.natCast_mul]
  generalize x * dg B k = p at *
  have w5 : (p : Int) % 18446744073709551616 = p:=by omega
  have w6 : ((p : Int) + (dg l (i + k) : Int)) % 18446744073709551616 = (p : Int) + dg l (i + k):=by omega
  have w7 : ((p : Int) + (dg l (i + k) : Int) + (c : Int)) % 18446744073709551616 = ((p + dg l (i + k) + c : Nat) : Int):=by omega
  have w8 : ((p + dg l (i + k) + c : Nat) : Int) % 4294967296 = (((p + dg l (i + k) + c) % 4294967296 : Nat) : Int):=by omega
  have w9 : ((p + dg l (i + k) + c : Nat) : Int) / 4294967296 = (((p + dg l (i + k) + c) / 4294967296 : Nat) : Int):=by omega
  repeat (first | simp only [seval,evB,Zlw,h1,e7,e8,w1,w2,w3,w4,w5,w6,w7,w8,w9 ] | simp (disch:=omega) only [dsB,ZcU H,Zjf G H])
  exact Zuj hB hx hs hn V m (k + 1) _ _ _ (by omega) (H.put _) (ZeB hd (Nat.mod_lt _ (by decide))) (by rw [List.length_set]; exact hl) (by omega) (fun j hj => by rw [Zql (by omega)]; exact hz j hj) key
theorem Zuk {A B : List Nat} {za zb : Bool} {b : Nat} (hA : Dg A) (hB : Dg B) (hs : A.length + B.length < 17179869184) : ∀ (m i : Nat) (h : Heap) (l : List Nat),
  m + i = A.length→Holds h b l→Dg l→l.length = A.length + B.length→(∀ j,i + B.length≤j→dg l j = 0)→val l = val (A.take i) * val B →
  Post (evL G T ZiL [(1,D zb B),(5,.own b 0 (A.length + B.length) 1),(18,D za A),(19,.int .i64 ((A.length : Nat) : Int)),(20,.int .i64 (i : Int))] h) fun r =>
   ∃ e h' l',r = (.exit 0,(1,D zb B) :: (5,.own b 0 (A.length + B.length) 1) :: e,h')∧Holds h' b l'∧Dg l'∧l'.length = A.length + B.length∧val l' = val A * val B
 | 0,i,h,l,hm,H,hd,hl,hz,he => by
  rw [Zae G T (c:=ZiL) rfl]
  have h1 : ¬ (i : Int) < A.length:=by omega
  repeat (first | simp only [seval,evB,Zlx,h1] | simp (disch:=omega) only [dsB])
  obtain rfl : i = A.length:=by omega
  rw [List.take_length] at he
  exact Post.some ⟨_,_,_,rfl,H,hd,hl,he⟩
 | m + 1,i,h,l,hm,H,hd,hl,hz,he => by
  rw [Zae G T (c:=ZiL) rfl]
  have h1 : (i : Int) < A.length:=by omega
  have e7 : (i : Int) + 1 = ((i + 1 : Nat) : Int):=by omega
  have e8 : (i : Int) + (B.length : Int) = ((i + B.length : Nat) : Int):=by omega
  have hx:=hA.dg i
  obtain ⟨_,hr,e,h',l',c',rfl,H',hd',hl',hc',hz',hv'⟩:=Zuj (G:=G) (T:=T) (zb:=zb) (i:=i) (x:=dg A i) (n:=A.length + B.length) (va:=D za A) (na:=(A.length : Nat)) hB hx (by omega) (by omega) (val l) B.length 0 h l 0 (by omega) H hd hl (by omega) hz (by simp [val])
  rw [cast0] at hr
  have w1 : (c' : Int) % 4294967296 = c':=by omega
  repeat (first | simp only [seval,evB,Zlx,h1,e7,e8,hr,w1 ] | simp (disch:=omega) only [dsB,ZcU H'])
  refine Zuk hA hB hs m (i + 1) _ _ (by omega) (H'.put _) (ZeB hd' hc') (by rw [List.length_set]; exact hl') (fun j hj => by rw [Zql (by omega)]; exact hz' j (by omega)) ?_
  have h3:=ZnB (l:=l') (j:=i + B.length) c' (by omega)
  rw [hz' _ (Nat.le_refl _),Nat.mul_zero,Nat.add_zero] at h3
  rw [h3,hv',he,Zad,Nat.add_mul,Nat.mul_assoc]
theorem ZsP (J : Al G T g) {z y : Bool} {a b : Nat} (hs : (dl a).length + (dl b).length < 17179869184) : ∃ z',run G T 113 [D z (dl a),D y (dl b)] = some (D z' (dl (a * b))):=by
 obtain ⟨_,hr,e,h',l',rfl,H,hd,hl,hv⟩:=Zuk (G:=G) (T:=T) (za:=z) (zb:=y) (b:=Heap.nil.b.length) (Zao a) (Zao b) hs (dl a).length 0 (new .nil (List.replicate ((dl a).length + (dl b).length) 0)) _ (by omega) (ZbA FreH.nil _) (ZjF _) (by rw [List.length_replicate]) (fun j _ => by
  by_cases hj : j < ((dl a).length + (dl b).length)
  ·rw [Zhg (by rw [List.length_replicate]; exact hj),List.getElem_replicate]
  ·exact ZkW (by rw [List.length_replicate]; omega)) (by rw [List.take_zero]; simp [val,Ztq])
 rw [cast0] at hr
 rw [ZaE,ZaE] at hv
 have hsn:=Zch H (n:=(dl a).length + (dl b).length) (by omega)
 rw [← hl,List.take_length] at hsn
 obtain ⟨z',hz⟩:=Zcg J (z:=false) hd (by omega)
 rw [hl] at hsn
 refine ⟨z',?_⟩
 have e8 : ((dl a).length : Int) + ((dl b).length : Int) = (((dl a).length + (dl b).length : Nat) : Int):=by omega
 rw [Zab G T J.A.ZsP,← hv]
 repeat (first | simp only [seval,evB,ZnK,e8,hr,hsn,hz] | simp (disch:=omega) only [dsB])
theorem q_lt {X V D T P g : Nat} (hV : D * P≤V) (hX : X < (T + 1) * P) (hg : T < g * D) : X / V < g:=by
 apply Nat.div_lt_of_lt_mul
 calc X < (T + 1) * P:=hX
  _≤(g * D) * P:=Nat.mul_le_mul_right _ hg
  _ = g * (D * P):=Nat.mul_assoc ..
  _≤g * V:=Nat.mul_le_mul_left _ hV
  _ = V * g:=Nat.mul_comm ..
theorem q_ge {X V D T P g : Nat} (h0 : 0 < V) (hV : V≤(D + 1) * P) (hX : T * P≤X) (hg : g * D≤T) (hD : g≤D + 1) : g≤X / V + 1:=by
 rcases Nat.eq_zero_or_pos g with rfl | hp
 ·exact Nat.zero_le _
 ·obtain ⟨k,rfl⟩ : ∃ k,g = k + 1:=⟨g - 1,by omega⟩
  have : k≤X / V:=by
   rw [Nat.le_div_iff_mul_le h0]
   calc k * V≤k * ((D + 1) * P):=Nat.mul_le_mul_left _ hV
    _ = (k * D + k) * P:=by rw [← Nat.mul_assoc,Nat.mul_add,Nat.mul_one]
    _≤((k + 1) * D) * P:=Nat.mul_le_mul_right _ (by rw [Nat.add_mul]; omega)
    _≤T * P:=Nat.mul_le_mul_right _ hg
    _≤X:=hX
  omega
theorem Zze {X V v1 v2 t u P g l : Nat} (h0 : 0 < V) (hV : (v1 * 4294967296 + v2) * P≤V) (hV2 : V≤(v1 * 4294967296 + v2 + 1) * P) (hX1 : (t * 4294967296 + u) * P≤X)
  (hv1 : 1≤v1) (hv2 : v2 < 4294967296) (hgl : g * v1 + l = t) (ht : t < v1 * 4294967296 + 4294967296) (hq : X / V≤g)
  (h : (g < 4294967296∧g * v2≤l * 4294967296 + u)∨4294967296≤l) : g < 4294967296∧X / V≤g∧g≤X / V + 1:=by
 have hg : g < 4294967296:=by
  rcases h with h | h
  ·exact h.1
  ·apply Classical.byContradiction; intro hc
   have : 4294967296 * v1≤g * v1:=Nat.mul_le_mul_right _ (by omega)
   omega
 refine ⟨hg,hq,q_ge h0 hV2 hX1 ?_ ?_⟩
 ·have e : g * (v1 * 4294967296 + v2) = g * v1 * 4294967296 + g * v2:=by rw [Nat.mul_add,Nat.mul_assoc]
  rw [e,← hgl]
  rcases h with h | h
  ·have:=h.2; omega
  ·have : g * v2≤4294967295 * 4294967295:=Nat.mul_le_mul (by omega) (by omega)
   omega
 ·omega
theorem ZtN {X V b g : Nat} (h : X < b * V) (hg : b≤g) : X / V < g:=by
 have h2 : X < V * b:=by rw [Nat.mul_comm]; exact h
 exact Nat.lt_of_lt_of_le (Nat.div_lt_of_lt_mul h2) hg
theorem ZxK {X V v1 v2 t u P g l : Nat} (hV : (v1 * 4294967296 + v2) * P≤V) (hX2 : X < (t * 4294967296 + u + 1) * P) (hXV : X < 4294967296 * V)
  (hgl : g * v1 + l = t) (h : 4294967296≤g∨l * 4294967296 + u < g * v2) : X / V < g:=by
 rcases h with h | h
 ·exact ZtN hXV h
 ·refine q_lt hV hX2 ?_
  have e : g * (v1 * 4294967296 + v2) = g * v1 * 4294967296 + g * v2:=by rw [Nat.mul_add,Nat.mul_assoc]
  rw [e,← hgl,Nat.add_mul,Nat.add_assoc]
  exact Nat.add_lt_add_left h _
theorem Zvk {X V v1 t P Q g l : Nat} (hV : v1 * Q≤V) (hX2 : X < (t + 1) * Q) (hv1 : 0 < v1) : X / V≤t / v1:=by
 have h1 : X / V < t / v1 + 1:=by
  refine q_lt hV hX2 ?_
  have h2:=Nat.div_add_mod t v1
  have h3:=Nat.mod_lt t hv1
  rw [Nat.add_mul,Nat.one_mul,Nat.mul_comm (t / v1)]; omega
 omega
theorem ZAt {A A' g V d c c' w z i x y n b : Nat} (hA : A' + 4294967296 ^ i * x = A + 4294967296 ^ i * n) (he : A + g * V = b + 4294967296 ^ i * (c + w)) (hd : n + y + w = x + 4294967296 * z) (hc : c + g * d = y + 4294967296 * c') :
  A' + g * (V + 4294967296 ^ i * d) = b + 4294967296 ^ (i + 1) * (c' + z):=by
 have e1 : g * (V + 4294967296 ^ i * d) = g * V + 4294967296 ^ i * (g * d):=by rw [Nat.mul_add,Nat.mul_left_comm]
 rw [e1,Nat.pow_succ,Nat.mul_assoc]
 generalize 4294967296 ^ i = p at *
 generalize g * d = m at *
 generalize g * V = gv at *
 have h1 : p * n + p * y + p * w = p * x + p * (4294967296 * z):=by rw [← Nat.mul_add,← Nat.mul_add,hd,Nat.mul_add]
 have h2 : p * c + p * m = p * y + p * (4294967296 * c'):=by rw [← Nat.mul_add,hc,Nat.mul_add]
 rw [Nat.mul_add] at he
 rw [Nat.mul_add,Nat.mul_add]
 omega
theorem Zyn {A A' V d w z i x n b : Nat} (hA : A' + 4294967296 ^ i * x = A + 4294967296 ^ i * n) (he : A + 4294967296 ^ i * w = b + V) (hd : n + 4294967296 * z = x + d + w) :
  A' + 4294967296 ^ (i + 1) * z = b + (V + 4294967296 ^ i * d):=by
 rw [Nat.pow_succ,Nat.mul_assoc]
 generalize 4294967296 ^ i = p at *
 have h1 : p * n + p * (4294967296 * z) = p * x + p * d + p * w:=by rw [← Nat.mul_add,hd,Nat.mul_add,Nat.mul_add]
 omega
theorem ZCP (x : Int) : evUn .xor (.int .u32 x) = some (.int .u32 (xorI .u32 4294967295 x)):=by rw [Ztu]; rfl
theorem xor32 {a b : Nat} (ha : a < 4294967296) (hb : b < 4294967296) : xorI .u32 (a : Int) (b : Int) = ((a ^^^ b : Nat) : Int):=by
 have : a ^^^ b < 2 ^ 32:=Nat.xor_lt_two_pow (n:=32) ha hb
 rw [Ztu]
 show IntKind.u32.wrap ((BitVec.ofInt 32 a ^^^ BitVec.ofInt 32 b).toNat : Int) = _
 rw [show BitVec.ofInt 32 (a : Int) = BitVec.ofNat 32 a from rfl,show BitVec.ofInt 32 (b : Int) = BitVec.ofNat 32 b from rfl,BitVec.toNat_xor,BitVec.toNat_ofNat,BitVec.toNat_ofNat,Nat.mod_eq_of_lt (by omega),Nat.mod_eq_of_lt (by omega),ZpV]
 omega
theorem ZGh {n : Nat} (h : n < 4294967296) : n / 2147483648 = (n.testBit 31).toNat:=by
 rw [Nat.testBit_eq_decide_div_mod_eq,show (2 : Nat) ^ 31 = 2147483648 from rfl]
 by_cases h2 : n / 2147483648 % 2 = 1
 ·rw [decide_eq_true h2]; simp only [Bool.toNat_true]; omega
 ·rw [decide_eq_false h2]; simp only [Bool.toNat_false]; omega
theorem Zxy {x y d w z : Nat} (hx : x < 4294967296) (hy : y < 4294967296) (hd : d < 4294967296) (hw : w≤1) (hz : z≤1) (h : d + y + w = x + 4294967296 * z) :
  (((4294967295 ^^^ x) &&& y) ||| ((4294967295 ^^^ (x ^^^ y)) &&& d)) / 2147483648 = z:=by
 have l1 : ((4294967295 ^^^ x) &&& y) ||| ((4294967295 ^^^ (x ^^^ y)) &&& d) < 4294967296 :=
  Nat.or_lt_two_pow (n:=32) (Nat.and_lt_two_pow _ hy) (Nat.and_lt_two_pow _ hd)
 rw [ZGh l1]
 have t1 : Nat.testBit 4294967295 31 = true:=by decide
 simp only [Nat.testBit_or,Nat.testBit_and,Nat.testBit_xor,t1]
 have e : ∀ n,n < 4294967296→n.testBit 31 = decide (2147483648≤n):=fun n hn => by
  rw [Nat.testBit_eq_decide_div_mod_eq,show (2 : Nat) ^ 31 = 2147483648 from rfl]
  by_cases h2 : 2147483648≤n
  ·rw [decide_eq_true h2]; simp only [decide_eq_true_eq]; omega
  ·rw [decide_eq_false h2]; simp only [decide_eq_false_iff_not]; omega
 rw [e x hx,e y hy,e d hd]
 by_cases a : 2147483648≤x <;> by_cases b : 2147483648≤y <;> by_cases c : 2147483648≤d <;> simp [a,b,c] <;> omega
theorem ZjI (J : Al G T g) {x y w d z : Nat} (hx : x < 4294967296) (hy : y < 4294967296) (hw : w≤1) (hd : d < 4294967296) (hz : z≤1) (h : d + y + w = x + 4294967296 * z) :
  run G T 121 [.int .u32 (x : Int),.int .u32 (y : Int),.int .u32 (w : Int)] = some (.tup [.int .u32 (d : Int),.int .u32 (z : Int)]):=by
 rw [Zab G T J.A.ZjI]
 have w1 : ((x : Int) - y) % 4294967296 = ((x : Int) - y) % 4294967296:=rfl
 have w2 : (((x : Int) - y) % 4294967296 - w) % 4294967296 = (d : Int):=by omega
 have n1 : (4294967295 ^^^ x) < 4294967296:=Nat.xor_lt_two_pow (n:=32) (by decide) hx
 have n2 : (x ^^^ y) < 4294967296:=Nat.xor_lt_two_pow (n:=32) hx hy
 have n3 : (4294967295 ^^^ (x ^^^ y)) < 4294967296:=Nat.xor_lt_two_pow (n:=32) (by decide) n2
 have x1:=xor32 (a:=4294967295) (b:=x) (by decide) hx
 have x2:=xor32 hx hy
 have x3:=xor32 (a:=4294967295) (b:=x ^^^ y) (by decide) n2
 rw [show ((4294967295 : Nat) : Int) = 4294967295 from rfl] at x1 x3
 have a1:=and32 n1 hy
 have a2:=and32 n3 hd
 have l1:=Nat.and_lt_two_pow (n:=32) (4294967295 ^^^ x) hy
 have l2:=Nat.and_lt_two_pow (n:=32) (4294967295 ^^^ (x ^^^ y)) hd
 have o1:=or32 l1 l2
 have b1:=Zxy hx hy hd hw hz h
 have b2 : (((((4294967295 ^^^ x) &&& y) ||| ((4294967295 ^^^ (x ^^^ y)) &&& d)) : Nat) : Int) / 2147483648 = (z : Int):=by
  rw [← b1]; rfl
 repeat (first | simp only [seval,evB,ZiA,ZCP,w2,x1,x2,x3,a1,a2,o1,b2] | simp (disch:=omega) only [dsB])
theorem ZjH (J : Al G T g) {x y w d z : Nat} (hx : x < 4294967296) (hy : y < 4294967296) (hw : w≤1) (hd : d < 4294967296) (hz : z≤1) (h : d + 4294967296 * z = x + y + w) :
  run G T 112 [.int .u32 (x : Int),.int .u32 (y : Int),.int .u32 (w : Int)] = some (.tup [.int .u32 (d : Int),.int .u32 (z : Int)]):=by
 rw [Zab G T J.A.ZjH]
 have w1 : (x : Int) % 18446744073709551616 = x:=by omega
 have w2 : (y : Int) % 18446744073709551616 = y:=by omega
 have w3 : (w : Int) % 18446744073709551616 = w:=by omega
 have w4 : ((x : Int) + y) % 18446744073709551616 = (x : Int) + y:=by omega
 have w5 : ((x : Int) + y + w) % 18446744073709551616 = (x : Int) + y + w:=by omega
 have w6 : ((x : Int) + y + w) % 4294967296 = d:=by omega
 have w7 : ((x : Int) + y + w) / 4294967296 = z:=by omega
 have w8 : (z : Int) % 4294967296 = z:=by omega
 repeat (first | simp only [seval,evB,Ziy,w1,w2,w3,w4,w5,w6,w7,w8] | simp (disch:=omega) only [dsB])
theorem ZEb (J : Al G T g) {x : Nat} (hx : x < 4294967296) : run G T 119 [.int .u32 (x : Int)] = some (.int .i64 ((32 - blen x : Nat) : Int)):=by
 rw [Zab G T J.A.bits_LeadingZeros32]
 have h1:=Zmh (G:=G) J hx
 have hb : blen x≤32:=Zaf.2 hx
 have w1 : (32 : Int) - (blen x : Nat) = ((32 - blen x : Nat) : Int):=by omega
 repeat (first | simp only [seval,evB,ZbP,h1,w1] | simp (disch:=omega) only [dsB])
theorem ZfF {b off n : Nat} {k : IntKind} {j : Int} (hj : 0≤j∧j < n) : iaddrV 1 (.own b off n 1) (.int k j) = some (.ptr b (off + j.toNat)):=by
 rw [iaddrV,if_pos ⟨hj.1,hj.2,rfl⟩,Nat.mul_one]
theorem ZGP {A W C : List Nat} {i : Nat} (hi : i < W.length) : dg (A ++ W ++ C) (A.length + i) = dg W i:=by
 rw [Zhg (by simp only [List.length_append]; omega),Zhg hi,List.getElem_append_left (by simp only [List.length_append]; omega),List.getElem_append_right (by omega)]
 congr 1; omega
theorem ZEr {V C : List Nat} {i : Nat} (hi : i < V.length) : dg (V ++ C) i = dg V i:=by
 rw [Zhg (by simp only [List.length_append]; omega),Zhg hi,List.getElem_append_left hi]
theorem ZFP {A W C : List Nat} {i x : Nat} (hi : i < W.length) : (A ++ W ++ C).set (A.length + i) x = A ++ W.set i x ++ C:=by
 rw [List.set_append_left _ _ (by simp only [List.length_append]; omega),List.set_append_right _ _ (by omega),Nat.add_sub_cancel_left]
theorem ZqF {h : Heap} {b : Nat} {A W C : List Nat} (H : Holds h b (A ++ W ++ C)) {i : Nat} (hi : i < W.length) : rdAt G h.mem 1 (.ptr b (A.length + i)) = some [.int .u32 (dg W i)]:=by
 rw [Zjf (G:=G) H (by simp only [List.length_append]; omega),ZGP hi]
theorem Zud {h : Heap} {b : Nat} {V C : List Nat} (H : Holds h b (V ++ C)) {i : Nat} (hi : i < V.length) : rdAt G h.mem 1 (.ptr b i) = some [.int .u32 (dg V i)]:=by
 rw [Zjf (G:=G) H (by simp only [List.length_append]; omega),ZEr hi]
theorem Ztl {h : Heap} {b : Nat} {A W C : List Nat} (H : Holds h b (A ++ W ++ C)) {i x : Nat} (hi : i < W.length) :
  storeV h 1 (.ptr b (A.length + i)) (.int .u32 (x : Int)) = some (.tup [],put h b (A ++ W.set i x ++ C)):=by
 rw [ZcU H (by simp only [List.length_append]; omega),ZFP hi]
theorem ZxW {h : Heap} {bu bv n : Nat} {A W C V V2 : List Nat} {X Y P v1 v2 t u : Nat} (HU : Holds h bu (A ++ W ++ C)) (HV : Holds h bv (V ++ V2)) (hW : W.length = n + 1) (hV : V.length = n) (hn : 2≤n) (hs : n < 549755813888)
  (dV : Dg V) (dW : Dg W) (e1 : dg V (n - 1) = v1) (e2 : dg V (n - 2) = v2) (e3 : dg W (n - 2) = u) (h0 : 0 < Y) (hV1 : (v1 * 4294967296 + v2) * P≤Y) (hV2 : Y≤(v1 * 4294967296 + v2 + 1) * P) (hX1 : (t * 4294967296 + u) * P≤X)
  (hX2 : X < (t * 4294967296 + u + 1) * P) (hXV : X < 4294967296 * Y) (hv1 : 1≤v1) (ht : t < v1 * 4294967296 + 4294967296) (htb : t < 18446744073709551616) : ∀ (g l : Nat),
  l < 4294967296→g * v1 + l = t→X / Y≤g →
  Post (evL G T ZbQ [(0,.own bu A.length (n + 1) 1),(1,.own bv 0 n 1),(5,.int .i64 (n : Int)),(7,.int .u64 (g : Int)),(8,.int .u64 (l : Int))] h) fun r =>
   ∃ e g',r = (.exit 0,(0,.own bu A.length (n + 1) 1) :: (1,.own bv 0 n 1) :: (5,.int .i64 (n : Int)) :: (7,.int .u64 ((g' : Nat) : Int)) :: e,h)∧g' < 4294967296∧X / Y≤g'∧g'≤X / Y + 1:=by
 intro g
 induction g using Nat.strongRecOn with
 | ind g ih =>
  intro l hl hgl hq
  have hv2 : v2 < 4294967296:=e2 ▸ dV.dg _
  have hu : u < 4294967296:=e3 ▸ dW.dg _
  have hv1' : v1 < 4294967296:=e1 ▸ dV.dg _
  have hend:=fun g l => Zze (X:=X) (V:=Y) (t:=t) (u:=u) (P:=P) (g:=g) (l:=l) h0 hV1 hV2 hX1 hv1 hv2
  have hdn:=ZxK (g:=g) (l:=l) hV1 hX2 hXV hgl
  have hgt : g≤t:=Nat.le_trans (Nat.le_mul_of_pos_right g hv1) (by omega)
  have hstep : 1≤g→(g - 1) * v1 + (l + v1) = t:=fun hg => by
   obtain ⟨k,rfl⟩ : ∃ k,g = k + 1:=⟨g - 1,by omega⟩
   rw [Nat.add_mul] at hgl; simp only [Nat.add_sub_cancel]; omega
  clear hX1 hX2 hXV hV1 hV2
  generalize X / Y = q at *
  rw [Zae G T (c:=ZbQ) rfl]
  have i1 : (n : Int) - 1 = ((n - 1 : Nat) : Int):=by omega
  have i2 : (n : Int) - 2 = ((n - 2 : Nat) : Int):=by omega
  have l1:=Zud (G:=G) HV (i:=n - 1) (by omega)
  have l2:=Zud (G:=G) HV (i:=n - 2) (by omega)
  have l3:=ZqF (G:=G) HU (i:=n - 2) (by omega)
  rw [e1] at l1
  rw [e2] at l2
  rw [e3] at l3
  have wv1 : (v1 : Int) % 18446744073709551616 = v1:=by omega
  have wv2 : (v2 : Int) % 18446744073709551616 = v2:=by omega
  have wu : (u : Int) % 18446744073709551616 = u:=by omega
  have wl : ((l : Int) + v1) % 18446744073709551616 = ((l + v1 : Nat) : Int):=by omega
  have wo:=ZpO (r:=l) (x:=u) hl hu
  have wg : 1≤g→((g : Int) - 1) % 18446744073709551616 = ((g - 1 : Nat) : Int):=fun hg => by omega
  have fin : (hg : q < g)→Post (if (4294967296 : Int)≤((l + v1 : Nat) : Int) then some ((.exit 0,[(0,.own bu A.length (n + 1) 1),(1,.own bv 0 n 1),(5,.int .i64 (n : Int)),(7,.int .u64 ((g - 1 : Nat) : Int)),(8,.int .u64 ((l + v1 : Nat) : Int)),(80,.bool true)],h) : Ex × Env × Heap)
    else evL G T ZbQ [(0,.own bu A.length (n + 1) 1),(1,.own bv 0 n 1),(5,.int .i64 (n : Int)),(7,.int .u64 ((g - 1 : Nat) : Int)),(8,.int .u64 ((l + v1 : Nat) : Int)),(80,.bool false)] h) fun r =>
   ∃ e g',r = (.exit 0,(0,.own bu A.length (n + 1) 1) :: (1,.own bv 0 n 1) :: (5,.int .i64 (n : Int)) :: (7,.int .u64 ((g' : Nat) : Int)) :: e,h)∧g' < 4294967296∧q≤g'∧g'≤q + 1:=by
   intro hg
   by_cases c2 : 4294967296≤l + v1
   ·rw [if_pos (by omega)]
    exact Post.some ⟨_,_,rfl,hend _ _ (hstep (by omega)) ht (by omega) (Or.inr c2)⟩
   ·rw [if_neg (by omega),show evL G T ZbQ [(0,.own bu A.length (n + 1) 1),(1,.own bv 0 n 1),(5,.int .i64 (n : Int)),(7,.int .u64 ((g - 1 : Nat) : Int)),(8,.int .u64 ((l + v1 : Nat) : Int)),(80,.bool false)] h = evL G T ZbQ [(0,.own bu A.length (n + 1) 1),(1,.own bv 0 n 1),(5,.int .i64 (n : Int)),(7,.int .u64 ((g - 1 : Nat) : Int)),(8,.int .u64 ((l + v1 : Nat) : Int))] h by
     rw [Zae G T (c:=ZbQ) rfl,Zae G T (c:=ZbQ) rfl]; rfl]
    exact ih (g - 1) (by omega) (l + v1) (by omega) (hstep (by omega)) (by omega)
  by_cases c1 : 4294967296≤g
  ·have hg:=hdn (Or.inl c1)
   have c1' : (4294967296 : Int)≤(g : Int):=by omega
   have wg:=wg (by omega)
   have fin:=fin hg
   clear hend hdn ih hstep
   by_cases c2 : (4294967296 : Int)≤((l + v1 : Nat) : Int)
   ·rw [if_pos c2] at fin
    repeat (first | simp only [seval,evB,ZdC,c1',c2,wg,wl,wv1,i1,l1 ] | simp (disch:=omega) only [dsB,ZfF])
    exact fin
   ·rw [if_neg c2] at fin
    repeat (first | simp only [seval,evB,ZdC,c1',c2,wg,wl,wv1,i1,l1 ] | simp (disch:=omega) only [dsB,ZfF])
    exact fin
  ·have c1' : ¬ (4294967296 : Int)≤(g : Int):=by omega
   have hp : g * v2≤4294967295 * 4294967295:=Nat.mul_le_mul (by omega) (by omega)
   have wp : (g : Int) * (v2 : Int) = ((g * v2 : Nat) : Int):=by rw [Int.natCast_mul]
   have wp2 : ((g * v2 : Nat) : Int) % 18446744073709551616 = ((g * v2 : Nat) : Int):=by omega
   by_cases c3 : l * 4294967296 + u < g * v2
   ·have hg:=hdn (Or.inr c3)
    have wg:=wg (by omega)
    have fin:=fin hg
    have c3' : ((l * 4294967296 + u : Nat) : Int) < ((g * v2 : Nat) : Int):=by omega
    clear hend hdn ih hstep
    by_cases c2 : (4294967296 : Int)≤((l + v1 : Nat) : Int)
    ·rw [if_pos c2] at fin
     repeat (first | simp only [seval,evB,ZdC,c1',c2,c3',wp,wp2,wo,wu,wv2,wg,wl,wv1,i1,i2,l1,l2,l3 ] | simp (disch:=omega) only [dsB,ZfF])
     exact fin
    ·rw [if_neg c2] at fin
     repeat (first | simp only [seval,evB,ZdC,c1',c2,c3',wp,wp2,wo,wu,wv2,wg,wl,wv1,i1,i2,l1,l2,l3 ] | simp (disch:=omega) only [dsB,ZfF])
     exact fin
   ·have c3' : ¬ ((l * 4294967296 + u : Nat) : Int) < ((g * v2 : Nat) : Int):=by omega
    have fin:=hend g l hgl ht hq (Or.inl ⟨by omega,by omega⟩)
    clear hend hdn ih hstep
    repeat (first | simp only [seval,evB,ZdC,c1',c3',wp,wp2,wo,wu,wv2,i1,i2,l2,l3 ] | simp (disch:=omega) only [dsB,ZfF])
    exact Post.some ⟨_,_,rfl,fin⟩
theorem ZAs {x y w : Nat} (hx : x < 4294967296) (hy : y < 4294967296) (hw : w≤1) : ∃ d z,d < 4294967296∧z≤1∧d + y + w = x + 4294967296 * z:=by
 by_cases h : y + w≤x
 ·exact ⟨x - y - w,0,by omega,by omega,by omega⟩
 ·exact ⟨x + 4294967296 - y - w,1,by omega,by omega,by omega⟩
theorem Zyi {x y w : Nat} (hx : x < 4294967296) (hy : y < 4294967296) (hw : w≤1) : ∃ d z,d < 4294967296∧z≤1∧d + 4294967296 * z = x + y + w :=
 ⟨(x + y + w) % 4294967296,(x + y + w) / 4294967296,by omega,by omega,by omega⟩
theorem ZuP (J : Al G T g) {h : Heap} {bu bv n q : Nat} {A C V V2 W0 : List Nat} (HU : Holds h bu (A ++ W0 ++ C)) (HV : Holds h bv (V ++ V2)) (hne : bv≠bu) (hV : V.length = n) (hs : n < 549755813888)
  (dV : Dg V) (hq : q < 4294967296) : ∀ (m i : Nat) (W : List Nat) (c w : Nat),m + i = n→W.length = n + 1→Dg W→c < 4294967296→w≤1→val W + q * val (V.take i) = val W0 + 4294967296 ^ i * (c + w) →
  Post (evL G T Zhw [(0,.own bu A.length (n + 1) 1),(1,.own bv 0 n 1),(5,.int .i64 (n : Int)),(7,.int .u64 (q : Int)),(9,.int .u32 (w : Int)),(10,.int .u64 (c : Int)),(81,.own bv 0 n 1),(82,.int .i64 (n : Int)),(83,.int .i64 (i : Int))] (put h bu (A ++ W ++ C))) fun r =>
   ∃ e W' c' w',r = (.exit 2,(0,.own bu A.length (n + 1) 1) :: (1,.own bv 0 n 1) :: (5,.int .i64 (n : Int)) :: (7,.int .u64 (q : Int)) :: (9,.int .u32 ((w' : Nat) : Int)) :: (10,.int .u64 ((c' : Nat) : Int)) :: e,put h bu (A ++ W' ++ C)) ∧
    W'.length = n + 1∧Dg W'∧c' < 4294967296∧w'≤1∧val W' + q * val V = val W0 + 4294967296 ^ n * (c' + w')
 | 0,i,W,c,w,hm,hW,dW,hc,hw,he => by
  rw [Zae G T (c:=Zhw) rfl]
  have h1 : ¬ (i : Int) < (n : Int):=by omega
  repeat (first | simp only [seval,evB,Zkz,h1] | simp (disch:=omega) only [dsB])
  obtain rfl : i = n:=by omega
  rw [List.take_of_length_le (by omega)] at he
  exact Post.some ⟨_,_,_,_,rfl,hW,dW,hc,hw,he⟩
 | m + 1,i,W,c,w,hm,hW,dW,hc,hw,he => by
  rw [Zae G T (c:=Zhw) rfl]
  have h1 : (i : Int) < (n : Int):=by omega
  have e7 : (i : Int) + 1 = ((i + 1 : Nat) : Int):=by omega
  have hd:=dV.dg i
  have hx:=dW.dg i
  have HU':=HU.put (A ++ W ++ C)
  have HV':=HV.other (l:=A ++ W ++ C) hne
  have l1:=Zud (G:=G) HV' (i:=i) (by omega)
  have l2:=ZqF (G:=G) HU' (i:=i) (by omega)
  have w1 : (dg V i : Int) % 18446744073709551616 = dg V i:=by omega
  have hp : q * dg V i≤4294967295 * 4294967295:=Nat.mul_le_mul (by omega) (by omega)
  have w2 : (q : Int) * (dg V i : Int) = ((q * dg V i : Nat) : Int):=by rw [Int.natCast_mul]
  have hv:=Zad (l:=V) (i:=i)
  generalize hpp : q * dg V i = p at *
  have w3 : (p : Int) % 18446744073709551616 = p:=by omega
  have w4 : ((c : Int) + (p : Int)) % 18446744073709551616 = ((c + p : Nat) : Int):=by omega
  have w5 : ((c + p : Nat) : Int) % 4294967296 = (((c + p) % 4294967296 : Nat) : Int):=by omega
  have w6 : ((c + p : Nat) : Int) / 4294967296 = (((c + p) / 4294967296 : Nat) : Int):=by omega
  have hy : (c + p) % 4294967296 < 4294967296:=Nat.mod_lt _ (by decide)
  have hc2 : (c + p) / 4294967296 < 4294967296:=by omega
  have hcp : c + p = (c + p) % 4294967296 + 4294967296 * ((c + p) / 4294967296):=by omega
  generalize (c + p) % 4294967296 = y at *
  generalize (c + p) / 4294967296 = c2 at *
  obtain ⟨d,z,hd1,hz,hdz⟩:=ZAs hx hy hw
  have call:=ZjI (G:=G) J hx hy hw hd1 hz hdz
  have st:=Ztl HU' (i:=i) (x:=d) (by omega)
  rw [ZlP] at st
  repeat (first | simp only [seval,evB,Zkz,h1,e7,w1,w2,w3,w4,w5,w6,l1,l2,call,st ] | simp (disch:=omega) only [dsB,ZfF])
  refine ZuP J HU HV hne hV hs dV hq m (i + 1) _ _ _ (by omega) (by rw [List.length_set]; exact hW) (ZeB dW hd1) hc2 hz ?_
  rw [hv]
  exact ZAt (ZnB d (by omega)) he hdz (by rw [hpp]; exact hcp)
theorem ZuO (J : Al G T g) {h : Heap} {bu bv n q : Nat} {A C V V2 W0 : List Nat} (HU : Holds h bu (A ++ W0 ++ C)) (HV : Holds h bv (V ++ V2)) (hne : bv≠bu) (hV : V.length = n) (hs : n < 549755813888)
  (dV : Dg V) : ∀ (m i : Nat) (W : List Nat) (w : Nat),m + i = n→W.length = n + 1→Dg W→w≤1→val W + 4294967296 ^ i * w = val W0 + val (V.take i)→dg W n = dg W0 n →
  Post (evL G T Zhv [(0,.own bu A.length (n + 1) 1),(5,.int .i64 (n : Int)),(7,.int .u64 (q : Int)),(13,.int .u32 (w : Int)),(129,.own bv 0 n 1),(130,.int .i64 (n : Int)),(131,.int .i64 (i : Int))] (put h bu (A ++ W ++ C))) fun r =>
   ∃ e W' w',r = (.exit 4,(0,.own bu A.length (n + 1) 1) :: (5,.int .i64 (n : Int)) :: (7,.int .u64 (q : Int)) :: (13,.int .u32 ((w' : Nat) : Int)) :: e,put h bu (A ++ W' ++ C)) ∧
    W'.length = n + 1∧Dg W'∧w'≤1∧val W' + 4294967296 ^ n * w' = val W0 + val V∧dg W' n = dg W0 n
 | 0,i,W,w,hm,hW,dW,hw,he,hn => by
  rw [Zae G T (c:=Zhv) rfl]
  have h1 : ¬ (i : Int) < (n : Int):=by omega
  repeat (first | simp only [seval,evB,Zky,h1] | simp (disch:=omega) only [dsB])
  obtain rfl : i = n:=by omega
  rw [List.take_of_length_le (by omega)] at he
  exact Post.some ⟨_,_,_,rfl,hW,dW,hw,he,hn⟩
 | m + 1,i,W,w,hm,hW,dW,hw,he,hn => by
  rw [Zae G T (c:=Zhv) rfl]
  have h1 : (i : Int) < (n : Int):=by omega
  have e7 : (i : Int) + 1 = ((i + 1 : Nat) : Int):=by omega
  have hd:=dV.dg i
  have hx:=dW.dg i
  have HU':=HU.put (A ++ W ++ C)
  have HV':=HV.other (l:=A ++ W ++ C) hne
  have l1:=Zud (G:=G) HV' (i:=i) (by omega)
  have l2:=ZqF (G:=G) HU' (i:=i) (by omega)
  obtain ⟨d,z,hd1,hz,hdz⟩:=Zyi hx hd hw
  have call:=ZjH (G:=G) J hx hd hw hd1 hz hdz
  have st:=Ztl HU' (i:=i) (x:=d) (by omega)
  rw [ZlP] at st
  repeat (first | simp only [seval,evB,Zky,h1,e7,l1,l2,call,st ] | simp (disch:=omega) only [dsB,ZfF])
  refine ZuO J HU HV hne hV hs dV m (i + 1) _ _ (by omega) (by rw [List.length_set]; exact hW) (ZeB dW hd1) hz ?_ (by rw [Zql (by omega)]; exact hn)
  rw [Zad]
  exact Zyn (ZnB d (by omega)) he hdz
theorem ZAl {X Y g w : Nat} (h0 : 0 < Y) (he : w + g * Y = X) (hq : X / Y≤g) : g = X / Y∧w = X % Y:=by
 have h1 : g≤X / Y:=by rw [Nat.le_div_iff_mul_le h0]; omega
 obtain rfl : g = X / Y:=by omega
 have:=Nat.div_add_mod X Y
 rw [Nat.mul_comm] at this
 exact ⟨rfl,by omega⟩
theorem ZAm {X Y g w w4 k B : Nat} (h0 : 0 < Y) (hB : Y≤B) (he : w + g * Y = X + B) (hw : w < B) (hq : g≤X / Y + 1) (h4 : w4 + B * k = w + Y) (hw4 : w4 < B) : g = X / Y + 1∧w4 = X % Y:=by
 have h1 : X / Y < g:=Nat.div_lt_of_lt_mul (by rw [Nat.mul_comm]; omega)
 obtain rfl : g = X / Y + 1:=by omega
 have h2:=Nat.div_add_mod X Y
 have h3:=Nat.mod_lt X h0
 rw [Nat.add_mul,Nat.one_mul,Nat.mul_comm] at he
 refine ⟨rfl,?_⟩
 rcases k with _ | _ | k
 ·rw [Nat.mul_zero] at h4; omega
 ·omega
 ·have : B * (k + 1 + 1) = B * k + B + B:=by rw [Nat.mul_add,Nat.mul_add,Nat.mul_one]
  omega
theorem ZGi {V : List Nat} {n : Nat} (hV : V.length = n + 2) : val V = val (V.take n) + 4294967296 ^ n * (dg V (n + 1) * 4294967296 + dg V n):=by
 have e1:=Zad (l:=V) (i:=n)
 have e2:=Zad (l:=V) (i:=n + 1)
 rw [List.take_of_length_le (by omega)] at e2
 rw [e2,e1,Nat.pow_succ,Nat.mul_add,Nat.mul_assoc,Nat.mul_comm 4294967296 (dg V (n + 1))]; omega
theorem ZAw {W : List Nat} {n : Nat} (hW : W.length = n + 3) : val W = val (W.take n) + 4294967296 ^ n * ((dg W (n + 2) * 4294967296 + dg W (n + 1)) * 4294967296 + dg W n):=by
 have e1:=Zad (l:=W) (i:=n)
 have e2:=Zad (l:=W) (i:=n + 1)
 have e3:=Zad (l:=W) (i:=n + 2)
 rw [List.take_of_length_le (by omega)] at e3
 rw [e3,e2,e1,Nat.pow_succ (m:=n + 1),Nat.pow_succ (m:=n)]
 generalize 4294967296 ^ n = p
 generalize dg W n = a
 generalize dg W (n + 1) = b
 generalize dg W (n + 2) = c
 have h1 : p * 4294967296 * b = 4294967296 * (p * b):=by rw [Nat.mul_comm p,Nat.mul_assoc]
 have h2 : p * 4294967296 * 4294967296 * c = 4294967296 * 4294967296 * (p * c):=by rw [Nat.mul_assoc p,Nat.mul_comm p,Nat.mul_assoc]
 have h3 : p * ((c * 4294967296 + b) * 4294967296 + a) = 4294967296 * 4294967296 * (p * c) + 4294967296 * (p * b) + p * a:=by
  rw [Nat.mul_add,← Nat.mul_assoc,Nat.mul_add,← Nat.mul_assoc]; omega
 rw [h1,h2,h3]; omega
theorem ZHy {b t v u2 v2 : Nat} (h : t * b + u2 < b * (v + v2 + 1)) (h2 : v2 < b) : t < v + b:=by
 have h3 : b * t < b * (v + v2 + 1):=by rw [Nat.mul_comm]; exact Nat.lt_of_le_of_lt (Nat.le_add_right _ _) h
 have:=Nat.lt_of_mul_lt_mul_left h3
 omega
structure StepPre (W V : List Nat) (n : Nat) : Prop where
 hn : 2≤n
 hs : n < 17179869184
 hW : W.length = n + 1
 hV : V.length = n
 dW : Dg W
 dV : Dg V
 top : 2147483648≤dg V (n - 1)
 lt : val W < 4294967296 * val V
theorem ZxV {W V : List Nat} {n : Nat} (p : StepPre W V n) : ∃ P,0 < P∧(dg V (n - 1) * 4294967296 + dg V (n - 2)) * P≤val V∧val V≤(dg V (n - 1) * 4294967296 + dg V (n - 2) + 1) * P ∧
  ((dg W n * 4294967296 + dg W (n - 1)) * 4294967296 + dg W (n - 2)) * P≤val W∧val W < ((dg W n * 4294967296 + dg W (n - 1)) * 4294967296 + dg W (n - 2) + 1) * P ∧
  dg W n * 4294967296 + dg W (n - 1) < dg V (n - 1) * 4294967296 + 4294967296∧val W / val V≤(dg W n * 4294967296 + dg W (n - 1)) / dg V (n - 1)∧0 < val V:=by
 obtain ⟨hn,hs,hW,hV,dW,dV,top,lt⟩:=p
 obtain ⟨k,rfl⟩ : ∃ k,n = k + 2:=⟨n - 2,by omega⟩
 have e1:=ZGi hV
 have e2:=ZAw hW
 have t1:=ZfN (dV.take k)
 have t2:=ZfN (dW.take k)
 rw [List.length_take,Nat.min_eq_left (by omega)] at t1 t2
 simp only [Nat.add_sub_cancel,show k + 2 - 1 = k + 1 from rfl] at *
 have b1:=dV.dg k
 have b2:=dW.dg k
 have b3:=dW.dg (k + 1)
 generalize 4294967296 ^ k = P at *
 generalize val (V.take k) = lo at *
 generalize val (W.take k) = lo2 at *
 generalize dg V (k + 1) = v1 at *
 generalize dg V k = v2 at *
 generalize dg W (k + 2) = u0 at *
 generalize dg W (k + 1) = u1 at *
 generalize dg W k = u2 at *
 rw [Nat.mul_comm] at e1 e2
 have c1 : (v1 * 4294967296 + v2) * P≤val V:=by rw [e1]; exact Nat.le_add_left _ _
 have c2 : val V < (v1 * 4294967296 + v2 + 1) * P:=by rw [e1,Nat.add_mul _ 1,Nat.one_mul]; omega
 have c3 : ((u0 * 4294967296 + u1) * 4294967296 + u2) * P≤val W:=by rw [e2]; exact Nat.le_add_left _ _
 have c4 : val W < ((u0 * 4294967296 + u1) * 4294967296 + u2 + 1) * P:=by rw [e2,Nat.add_mul _ 1,Nat.one_mul]; omega
 have hP : 0 < P:=by omega
 have hY : 0 < val V:=Nat.lt_of_lt_of_le (Nat.mul_pos (by omega) hP) c1
 refine ⟨P,hP,c1,Nat.le_of_lt c2,c3,c4,?_,?_,hY⟩
 ·have h1 : ((u0 * 4294967296 + u1) * 4294967296 + u2) * P < (4294967296 * (v1 * 4294967296 + v2 + 1)) * P:=by
   calc _≤val W:=c3
    _ < 4294967296 * val V:=lt
    _≤4294967296 * ((v1 * 4294967296 + v2 + 1) * P):=Nat.mul_le_mul_left _ (Nat.le_of_lt c2)
    _ = _:=by rw [Nat.mul_assoc]
  exact ZHy (Nat.lt_of_mul_lt_mul_right h1) b1
 ·refine Zvk (P:=P) (g:=0) (l:=0) (Q:=4294967296 * P) ?_ ?_ (by omega)
  ·refine Nat.le_trans ?_ c1
   rw [← Nat.mul_assoc]; exact Nat.mul_le_mul_right _ (by omega)
  ·refine Nat.lt_of_lt_of_le c4 ?_
   rw [← Nat.mul_assoc]; exact Nat.mul_le_mul_right _ (by omega)
end Go.Cv
