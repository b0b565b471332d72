/-
 A part of the proof of the statements of this seat (texts that the law's own text leans on): no condition.
-/
import Derived.Test.YtddmoldiopnifaaGreatDoorM13
import Derived.Test.YtddmoldiopnifaaGreatDoorM7
import Derived.Test.YtddmoldiopnifaaGreatDoorM11
set_option linter.unusedVariables false
set_option linter.unusedSimpArgs false
namespace Go.Cv
variable {G : Nat→Option (List AV)} {T : Tbl} {g : Nat}
theorem Zzp {w k : Nat} (hk : k < 64) (hw : w < 2 ^ (k + 1)) : w &&& (2 ^ 64 - (2 ^ k + 1)) = w % 2 ^ k:=by
 apply Nat.eq_of_testBit_eq
 intro i
 have hp : (2 : Nat) ^ k < 2 ^ 64:=Nat.pow_lt_pow_right (by decide) hk
 rw [Nat.testBit_and,Nat.testBit_mod_two_pow,Nat.testBit_two_pow_sub_succ hp,Nat.testBit_two_pow]
 by_cases h1 : i < k
 ·rw [decide_eq_true h1,decide_eq_true (show i < 64 by omega),decide_eq_false (show ¬ k = i by omega)]; simp
 ·rw [decide_eq_false h1]
  by_cases h2 : i = k
  ·rw [decide_eq_true h2.symm]; simp
  ·have : w.testBit i = false:=Nat.testBit_lt_two_pow (Nat.lt_of_lt_of_le hw (Nat.pow_le_pow_right (by decide) (by omega)))
   rw [this]; simp
theorem andn64 {w k : Nat} (hk : k < 64) (hw : w < 2 ^ (k + 1)) : andNotI .u64 (w : Int) ((2 ^ k : Nat) : Int) = ((w % 2 ^ k : Nat) : Int):=by
 have hp : (2 : Nat) ^ k < 2 ^ 64:=Nat.pow_lt_pow_right (by decide) hk
 have hw2 : w < 2 ^ 64:=Nat.lt_of_lt_of_le hw (Nat.pow_le_pow_right (by decide) (by omega))
 have hlt : w % 2 ^ k < 2 ^ k:=Nat.mod_lt _ (Nat.two_pow_pos k)
 rw [ZoM]
 show IntKind.u64.wrap ((BitVec.ofInt 64 (w : Int) &&& ~~~BitVec.ofInt 64 ((2 ^ k : Nat) : Int)).toNat : Int) = _
 rw [show BitVec.ofInt 64 (w : Int) = BitVec.ofNat 64 w from rfl,show BitVec.ofInt 64 ((2 ^ k : Nat) : Int) = BitVec.ofNat 64 (2 ^ k) from rfl,BitVec.toNat_and,BitVec.toNat_not,BitVec.toNat_ofNat,BitVec.toNat_ofNat,Nat.mod_eq_of_lt hw2,Nat.mod_eq_of_lt hp,
  show 2 ^ 64 - 1 - 2 ^ k = 2 ^ 64 - (2 ^ k + 1) by omega,Zzp hk hw,Zbx]
 omega
theorem ZAz {w : Nat} (h : w < 4294967296) : andNotI .u64 (w : Int) 2147483648 = ((w % 2147483648 : Nat) : Int):=andn64 (k:=31) (by decide) h
theorem ZAy {w : Nat} (h : w < 18446744073709551616) : andNotI .u64 (w : Int) 9223372036854775808 = ((w % 9223372036854775808 : Nat) : Int):=andn64 (k:=63) (by decide) h
theorem Zvc {w k : Nat} (hw : w < 2 ^ k) : w &&& 2 ^ k = 0:=by
 apply Nat.eq_of_testBit_eq
 intro i
 rw [Nat.testBit_and,Nat.testBit_two_pow,Nat.zero_testBit]
 by_cases h : k = i
 ·subst h; rw [Nat.testBit_lt_two_pow hw]; rfl
 ·rw [decide_eq_false h,Bool.and_false]
theorem Zvb {w k : Nat} (h1 : 2 ^ k≤w) (hw : w < 2 ^ (k + 1)) : w &&& 2 ^ k = 2 ^ k:=by
 apply Nat.eq_of_testBit_eq
 intro i
 rw [Nat.testBit_and,Nat.testBit_two_pow]
 rw [Nat.pow_succ] at hw
 by_cases h : k = i
 ·subst h
  have : w / 2 ^ k = 1:=Nat.div_eq_of_lt_le (by omega) (by omega)
  rw [Nat.testBit_eq_decide_div_mod_eq,this]; rfl
 ·rw [decide_eq_false h,Bool.and_false]
theorem ZvZ {w k : Nat} (hk : k < 64) (hw : w < 2 ^ (k + 1)) : andI .u64 (w : Int) ((2 ^ k : Nat) : Int) = if 2 ^ k≤w then ((2 ^ k : Nat) : Int) else 0:=by
 have hp : (2 : Nat) ^ k < 2 ^ 64:=Nat.pow_lt_pow_right (by decide) hk
 have hw2 : w < 2 ^ 64:=Nat.lt_of_lt_of_le hw (Nat.pow_le_pow_right (by decide) (by omega))
 rw [and64 (by omega) (by omega)]
 by_cases h : 2 ^ k≤w
 ·rw [if_pos h,Zvb h hw]
 ·rw [if_neg h,Zvc (by omega)]; rfl
theorem ZGX {w : Nat} (h : w < 4294967296) : andI .u64 (w : Int) 2147483648 = if 2147483648≤w then 2147483648 else 0:=ZvZ (k:=31) (by decide) h
theorem ZGW {w : Nat} (h : w < 18446744073709551616) : andI .u64 (w : Int) 9223372036854775808 = if 9223372036854775808≤w then 9223372036854775808 else 0:=ZvZ (k:=63) (by decide) h
theorem ZEw {w : Nat} (h : w < 18446744073709551616) : andI .u64 (w : Int) 8388607 = ((w % 8388608 : Nat) : Int):=Zpo (j:=23) h (by decide)
theorem ZEv {w : Nat} (h : w < 18446744073709551616) : andI .u64 (w : Int) 4503599627370495 = ((w % 4503599627370496 : Nat) : Int):=Zpo (j:=52) h (by decide)
theorem or_s : orI .u64 2147483648 2147483647 = 4294967295:=by rw [Zob]; rfl
theorem or_d : orI .u64 9223372036854775808 9223372036854775807 = 18446744073709551615:=by rw [Zob]; rfl
theorem ZHr : orI .u64 2139095040 4194304 = 2143289344:=by rw [Zob]; rfl
theorem ZHq : orI .u64 9218868437227405312 2251799813685248 = 9221120237041090560:=by rw [Zob]; rfl
theorem Zqy (e : Env) (h : Heap) : evL G T Zce e h = kS G T (evL G T ZbH (keepE [4,6,18,19,20] e) h) Zce:=Zaf G T rfl e h
theorem ia11 (x : AV) (k : IntKind) : iaddrV 1 (.imm 1 [x]) (.int k 0) = some (.iptr [x] 0):=rfl
theorem rd11 (h : Mem) (x : AV) : rdAt G h 1 (.iptr [x] 0) = some [x]:=rfl
theorem ZhW (J : Al G T g) (F : Fm) {w : Nat} (hw : w < 18446744073709551616) : run G T 95 [.int .u8 F.u,.imm 1 [.int .u64 (w : Int)]] = some (.tup [shA F,.int .i64 (if w < 2 * F.sg then 0 else 6)]):=by
 rw [Zac G T J.D.word_open]
 have h1:=Zhh (G:=G) J F
 have wr : IntKind.i64.wrap 1 = 1:=rfl
 by_cases hk : w < 2 * F.sg
 ·rw [if_pos hk]
  cases F
  ·simp only [shA,Fm.u,Fm.fr,Fm.sg,Fm.most,Int.cast_ofNat_Int,Nat.reduceMul] at *
   have c1 : ¬ (4294967295 : Int) < (w : Int):=by omega
   repeat' (first|simp (maxSteps:=9^7) only [seval,exC,Zdq,h1,Zqy,ZbH,ia11,rd11,or_s,or_d,c1,wr]|simp (maxSteps:=9^7) (disch:=first|with_reducible assumption|omega) only [dxB]|(simp only [kdB];split)|(simp only [kvB];split))
  ·simp only [shA,Fm.u,Fm.fr,Fm.sg,Fm.most,Int.cast_ofNat_Int,Nat.reduceMul] at *
   have c1 : ¬ (18446744073709551615 : Int) < (w : Int):=by omega
   repeat' (first|simp (maxSteps:=9^7) only [seval,exC,Zdq,h1,Zqy,ZbH,ia11,rd11,or_s,or_d,c1,wr]|simp (maxSteps:=9^7) (disch:=first|with_reducible assumption|omega) only [dxB]|(simp only [kdB];split)|(simp only [kvB];split))
 ·rw [if_neg hk]
  cases F
  ·simp only [shA,Fm.u,Fm.fr,Fm.sg,Fm.most,Int.cast_ofNat_Int,Nat.reduceMul] at *
   have c1 : (4294967295 : Int) < (w : Int):=by omega
   repeat' (first|simp (maxSteps:=9^7) only [seval,exC,Zdq,h1,Zqy,ZbH,ia11,rd11,or_s,or_d,c1,wr]|simp (maxSteps:=9^7) (disch:=first|with_reducible assumption|omega) only [dxB]|(simp only [kdB];split)|(simp only [kvB];split))
  ·simp only [Fm.sg] at hk; omega
theorem Zzw (F : Fm) (w : Nat) : (F.ex w = 0∧F.fc w = 0∧F.cls w = 1)∨(F.ex w = 0∧F.fc w≠0∧F.cls w = 2)∨(F.ex w≠0∧F.ex w < F.most∧F.cls w = 3)∨(F.ex w≠0∧¬ F.ex w < F.most∧F.fc w = 0∧F.cls w = 4)∨(F.ex w≠0∧¬ F.ex w < F.most∧F.fc w≠0∧F.cls w = 5):=by
 unfold Fm.cls
 generalize F.ex w = x
 generalize F.fc w = y
 repeat' split
 all_goals omega
theorem ZDv (F : Fm) (w : Nat) : (F.ng w = true∧F.sg≤w)∨(F.ng w = false∧w < F.sg):=by
 unfold Fm.ng
 by_cases h : F.sg≤w
 ·left; exact ⟨decide_eq_true h,h⟩
 ·right; exact ⟨decide_eq_false h,by omega⟩
theorem ZmA (J : Al G T g) (F : Fm) {w : Nat} (hw : w < 2 * F.sg) : run G T 201 [shA F,.int .u64 (w : Int)] = some (.int .u8 (F.cls w)):=by
 rw [Zac G T J.U.word_shape_class]
 obtain ⟨q1,q2,q3,q4⟩:=ZjT hw
 have hc:=Zzw F w
 have hlt : w % F.sg < F.sg:=Nat.mod_lt _ (by cases F <;> decide)
 clear q1
 generalize F.cls w = c at *
 generalize F.ex w = x at *
 generalize F.fc w = y at *
 cases F
 ·have h2:=ZAz (w:=w) hw
  have hi:=Zmf J .s
  simp only [shA,Fm.u,Fm.fr,Fm.sg,Fm.most,Int.cast_ofNat_Int,Nat.reducePow,Nat.reduceMul] at *
  generalize w % 2147483648 = s at *
  repeat' (first|simp (maxSteps:=9^7) only [seval,exC,ZbE,h2,hi]|simp (maxSteps:=9^7) (disch:=first|with_reducible assumption|omega) only [dxB]|(simp only [kdB];split)|(simp only [kvB];split))
  all_goals (refine Zks ?_; omega)
 ·have h2:=ZAy (w:=w) hw
  have hi:=Zmf J .d
  simp only [shA,Fm.u,Fm.fr,Fm.sg,Fm.most,Int.cast_ofNat_Int,Nat.reducePow,Nat.reduceMul] at *
  generalize w % 9223372036854775808 = s at *
  repeat' (first|simp (maxSteps:=9^7) only [seval,exC,ZbE,h2,hi]|simp (maxSteps:=9^7) (disch:=first|with_reducible assumption|omega) only [dxB]|(simp only [kdB];split)|(simp only [kvB];split))
  all_goals (refine Zks ?_; omega)
theorem Zpk (J : Al G T g) (F : Fm) {w : Nat} (hw : w < 2 * F.sg) : run G T 200 [shA F,.int .u64 (w : Int)] = some (fldA (F.ng w) (F.ex w) (F.fc w)):=by
 rw [Zac G T J.U.word_shape_split]
 have hlt : w % F.sg < F.sg:=Nat.mod_lt _ (by cases F <;> decide)
 have hn:=ZDv F w
 have e2 : w % F.sg / 2 ^ F.fr = F.ex w:=rfl
 have e3 : w % F.sg % 2 ^ F.fr = F.fc w:=rfl
 have q4:=(ZjT hw).2.2.2
 generalize F.ng w = n at *
 generalize F.ex w = x at *
 generalize F.fc w = y at *
 cases F
 ·have h2:=ZAz (w:=w) hw
  have h4:=ZGX (w:=w) hw
  simp only [shA,Fm.u,Fm.fr,Fm.sg,Fm.most,fldA,Int.cast_ofNat_Int,Nat.reducePow] at *
  generalize w % 2147483648 = s at *
  have h5:=ZEw (w:=s) (by omega)
  rw [e3] at h5
  have w1 : (s : Int) / 8388608 = (x : Int):=by omega
  rcases hn with ⟨rfl,hn⟩ | ⟨rfl,hn⟩
  ·rw [if_pos hn] at h4
   repeat' (first|simp (maxSteps:=9^7) only [seval,exC,ZaT,h2,h4,h5,w1]|simp (maxSteps:=9^7) (disch:=first|with_reducible assumption|omega) only [dxB]|(simp only [kdB];split)|(simp only [kvB];split))
  ·rw [if_neg (by omega)] at h4
   repeat' (first|simp (maxSteps:=9^7) only [seval,exC,ZaT,h2,h4,h5,w1]|simp (maxSteps:=9^7) (disch:=first|with_reducible assumption|omega) only [dxB]|(simp only [kdB];split)|(simp only [kvB];split))
 ·have h2:=ZAy (w:=w) hw
  have h4:=ZGW (w:=w) hw
  simp only [shA,Fm.u,Fm.fr,Fm.sg,Fm.most,fldA,Int.cast_ofNat_Int,Nat.reducePow] at *
  generalize w % 9223372036854775808 = s at *
  have h5:=ZEv (w:=s) (by omega)
  rw [e3] at h5
  have w1 : (s : Int) / 4503599627370496 = (x : Int):=by omega
  rcases hn with ⟨rfl,hn⟩ | ⟨rfl,hn⟩
  ·rw [if_pos hn] at h4
   repeat' (first|simp (maxSteps:=9^7) only [seval,exC,ZaT,h2,h4,h5,w1]|simp (maxSteps:=9^7) (disch:=first|with_reducible assumption|omega) only [dxB]|(simp only [kdB];split)|(simp only [kvB];split))
  ·rw [if_neg (by omega)] at h4
   repeat' (first|simp (maxSteps:=9^7) only [seval,exC,ZaT,h2,h4,h5,w1]|simp (maxSteps:=9^7) (disch:=first|with_reducible assumption|omega) only [dxB]|(simp only [kdB];split)|(simp only [kvB];split))
theorem ZbS {F : Fm} {w : Nat} (h : w < 2 * F.sg) : w < 18446744073709551616:=by
 have : 2 * F.sg≤18446744073709551616:=by cases F <;> decide
 omega
theorem ZhV (J : Al G T g) (F : Fm) {w : Nat} (hw : w < 2 * F.sg) : run G T 193 [.int .u8 F.u,.int .u64 (w : Int)] = some (.tup [.int .u8 (F.cls w),.int .i64 0]):=by
 rw [Zac G T J.U.ZhV]
 have h1:=ZhW J F (ZbS hw)
 rw [if_pos hw] at h1
 have h2:=ZmA J F hw
 generalize F.cls w = c at *
 simp only [shA] at *
 repeat' (first|simp (maxSteps:=9^7) only [seval,exC,ZgV,h1,h2]|simp (maxSteps:=9^7) (disch:=first|with_reducible assumption|omega) only [dxB]|(simp only [kdB];split)|(simp only [kvB];split))
theorem ZeD (J : Al G T g) (F : Fm) {w : Nat} (hw : w < 2 * F.sg) : run G T 192 [.int .u8 F.u,.int .u64 (w : Int)] = some (.tup [fldA (F.ng w) (F.ex w) (F.fc w),.int .i64 0]):=by
 rw [Zac G T J.U.ZeD]
 have h1:=ZhW J F (ZbS hw)
 rw [if_pos hw] at h1
 have h2:=Zpk J F hw
 generalize F.ng w = n at *
 generalize F.ex w = x at *
 generalize F.fc w = y at *
 simp only [shA,fldA] at *
 repeat' (first|simp (maxSteps:=9^7) only [seval,exC,ZgX,h1,h2]|simp (maxSteps:=9^7) (disch:=first|with_reducible assumption|omega) only [dxB]|(simp only [kdB];split)|(simp only [kvB];split))
theorem ZkV (J : Al G T g) (F : Fm) {w : Nat} (hw : w < 2 * F.sg) : run G T 202 [.int .u8 F.u,.int .u64 (w : Int)] = some (.tup [shA F,.int .i64 (if F.fin w then 0 else 7)]):=by
 rw [Zac G T J.U.ZkV]
 have h1:=ZhW J F (ZbS hw)
 rw [if_pos hw] at h1
 have h2:=ZmA J F hw
 have h3:=ZaE (F:=F) (w:=w)
 have h4:=Zgp F w
 by_cases hf : F.fin w
 ·rw [if_pos hf]
  have h5:=h3.1 hf
  clear h3
  generalize F.cls w = c at *
  have c1 : ¬ (4 : Int)≤c:=by omega
  simp only [shA] at *
  repeat' (first|simp (maxSteps:=9^7) only [seval,exC,ZdW,h1,h2,c1]|simp (maxSteps:=9^7) (disch:=first|with_reducible assumption|omega) only [dxB]|(simp only [kdB];split)|(simp only [kvB];split))
 ·rw [if_neg hf]
  have h5 : ¬ (F.cls w = 1∨F.cls w = 2∨F.cls w = 3):=fun h => hf (h3.2 h)
  clear h3
  generalize F.cls w = c at *
  have c1 : (4 : Int)≤c:=by omega
  simp only [shA] at *
  repeat' (first|simp (maxSteps:=9^7) only [seval,exC,ZdW,h1,h2,c1]|simp (maxSteps:=9^7) (disch:=first|with_reducible assumption|omega) only [dxB]|(simp only [kdB];split)|(simp only [kvB];split))
theorem ZHp {y k : Nat} (h : y < 2 ^ k) (hk : k < 63) : orI .u64 (y : Int) ((2 ^ k : Nat) : Int) = ((2 ^ k + y : Nat) : Int):=by
 have hp : (2 : Nat) ^ k < 2 ^ 64:=Nat.pow_lt_pow_right (by decide) (by omega)
 have e:=ZlD (c:=y) (x:=1) (s:=k) h
 rw [Nat.one_mul] at e
 rw [or64 (by omega) (by omega),e,Nat.add_comm]
theorem ZeE (J : Al G T g) (F : Fm) {w : Nat} (hw : w < 2 * F.sg) :
  ∃ z k,run G T 194 [.int .u8 F.u,.int .u64 (w : Int)] = some (.tup [DyA z (F.vl w),.int .i64 k]):=by
 have h1:=ZkV J F hw
 by_cases hf : F.fin w
 ·rw [if_pos hf] at h1
  have h2:=Zpk J F hw
  have h3:=ZuY J F
  have hy : F.fc w < 2 ^ F.fr:=Nat.mod_lt _ (Nat.two_pow_pos _)
  have hp : 2 ^ F.fr≤4503599627370496:=by cases F <;> decide
  have hF:=ZaM F
  have hm : F.most≤2047:=by cases F <;> decide
  have hvl : F.vl w = F.val w:=if_pos hf
  rw [hvl]
  unfold Fm.fin at hf
  unfold Fm.val
  have hor:=ZHp hy (by omega)
  generalize F.ex w = x at *
  generalize F.fc w = y at *
  generalize F.ng w = n at *
  have hb1 : blen y≤53:=Zae.2 (by omega)
  have hb2 : blen (2 ^ F.fr + y)≤53:=Zae.2 (by omega)
  have hmin : min F.fr 64 = F.fr:=by omega
  have hp0:=Nat.two_pow_pos F.fr
  by_cases h0 : x = 0
  ·subst h0
   obtain ⟨z1,o1⟩:=ZnZ J (n:=y) (by omega)
   obtain ⟨z2,o2⟩:=ZbQ J (n:=n) (z:=z1) (a:=y) (e:=F.low) (Zau (by omega)) (ZoW (by omega) (by omega)) (by omega)
   have w1 : max (0 : Int) 1 = 1:=by decide
   have w2 : IntKind.i64.wrap (1 - 1) = 0:=rfl
   have w3 : IntKind.i64.wrap (0 + F.low) = F.low:=by rw [Int.zero_add]; exact Zad (by omega)
   have w4 : IntKind.i64.wrap F.low = F.low:=Zad (by omega)
   refine ⟨z2,0,?_⟩
   rw [if_pos rfl,Zac G T J.U.ZeE]
   simp only [shA,fldA,cast0,DyA,A3] at *
   repeat' (first|simp (maxSteps:=9^7) only [seval,exC,ZdC,h1,h2,h3,o1,w1,w2,w3,w4,Zju,o2,Int.zero_add]|simp (maxSteps:=9^7) (disch:=first|with_reducible assumption|omega) only [dxB]|(simp only [kdB];split)|(simp only [kvB];split))
  ·obtain ⟨z1,o1⟩:=ZnZ J (n:=2 ^ F.fr + y) (by omega)
   obtain ⟨z2,o2⟩:=ZbQ J (n:=n) (z:=z1) (a:=2 ^ F.fr + y) (e:=x - 1 + F.low) (Zau (by omega)) (ZoW (by omega) (by omega)) (by omega)
   have c0 : (0 : Int) < (x : Int):=by omega
   have w1 : max (x : Int) 1 = x:=by omega
   have w2 : IntKind.i64.wrap ((x : Int) - 1) = x - 1:=Zad (by omega)
   have w3 : IntKind.i64.wrap ((x : Int) - 1 + F.low) = x - 1 + F.low:=Zad (by omega)
   have w5 : (1 * (2 : Int) ^ F.fr) % 18446744073709551616 = ((2 ^ F.fr : Nat) : Int):=by rw [Zbk]; omega
   have w6 : ((2 : Int) ^ F.fr) % 18446744073709551616 = ((2 ^ F.fr : Nat) : Int):=by rw [Zbk]; omega
   refine ⟨z2,0,?_⟩
   rw [if_neg h0,Zac G T J.U.ZeE]
   simp only [shA,fldA,DyA,A3] at *
   repeat' (first|simp (maxSteps:=9^7) only [seval,exC,ZdC,h1,h2,h3,c0,hmin,w5,w6,hor,o1,w1,w2,w3,Zju,o2]|simp (maxSteps:=9^7) (disch:=first|with_reducible assumption|omega) only [dxB]|(simp only [kdB];split)|(simp only [kvB];split))
 ·rw [if_neg hf] at h1
  refine ⟨true,7,?_⟩
  have hvl : F.vl w = ⟨false,0,0⟩:=if_neg hf
  rw [hvl,Zac G T J.U.ZeE]
  simp only [shA,DyA,A3,Zaq] at *
  repeat' (first|simp (maxSteps:=9^7) only [seval,exC,ZdC,h1]|simp (maxSteps:=9^7) (disch:=first|with_reducible assumption|omega) only [dxB]|(simp only [kdB];split)|(simp only [kvB];split))
  all_goals try rfl
theorem ZrS (J : Al G T g) (F : Fm) : run G T 204 [shA F] = some (.int .u64 (F.nan : Int)):=by
 rw [Zac G T J.U.word_shape_none]
 have h:=Zmf (G:=G) J F
 cases F <;> (
  simp only [shA,Fm.u,Fm.fr,Fm.sg,Fm.most,Fm.nan,Int.cast_ofNat_Int,Nat.reducePow,Nat.reduceMul,Nat.reduceSub,Nat.reduceAdd] at *
  repeat' (first|simp (maxSteps:=9^7) only [seval,exC,ZcK,h,ZHr,ZHq]|simp (maxSteps:=9^7) (disch:=first|with_reducible assumption|omega) only [dxB]|(simp only [kdB];split)|(simp only [kvB];split)))
theorem Zmd (J : Al G T g) (F : Fm) : run G T 196 [.int .u8 F.u] = some (.tup [.int .u64 (F.nan : Int),.int .i64 0]):=by
 rw [Zac G T J.U.Zmd]
 have h:=Zgb (G:=G) J F (n:=false) (k:=204) (ZrS J F) (by cases F <;> decide)
 rw [show F.nan + F.sgn false = F.nan from rfl] at h
 repeat' (first|simp (maxSteps:=9^7) only [seval,exC,Ziy,h]|simp (maxSteps:=9^7) (disch:=first|with_reducible assumption|omega) only [dxB]|(simp only [kdB];split)|(simp only [kvB];split))
theorem Zcj (a b : Dy) : Nz (mulD a b):=ZkY _ _ _
theorem Zja {a b : Dy} {K : Nat} (ha : Bd a K) (hb : Bd b K) : Bd (mulD a b) (4 * K):=by
 obtain ⟨a1,a2,a3⟩:=ha
 obtain ⟨b1,b2,b3⟩:=hb
 have hb : blen (a.m * b.m)≤2 * K:=by
  refine Zae.2 ?_
  rw [show 2 * K = K + K by omega,Nat.pow_add]
  exact Nat.mul_lt_mul_of_lt_of_lt (Zae.1 a1) (Zae.1 b1)
 exact ZmJ (by omega) (by omega) (by omega)
theorem ZbL {d : Dy} (h : Nz d) (b : Bd d 131072) : mayD d.n (dl d.m) d.e = true:=by
 obtain ⟨b1,b2,b3⟩:=b
 have hm : mayL (dl d.m) = true:=Zau b1
 simp only [mayD,hm,Bool.true_and]
 by_cases h0 : d.m = 0
 ·rw [h.1 h0,Zaq]; rfl
 ·have h1 : ¬ (dl d.m).length = 0:=fun hc => h0 (Zaz.1 hc)
  rw [if_neg h1,dg0]
  have h2:=h.2 h0
  simp only [Bool.and_eq_true,decide_eq_true_eq]
  exact ⟨h2,by omega,by omega⟩
theorem Zmt (J : Al G T g) (F : Fm) : run G T 157 [.int .u8 F.u] = some (.int .u64 (F.nan : Int)):=by
 rw [Zac G T J.F.Zmt]
 have h1:=ZfZ J F
 have h2:=ZdF J F
 cases F
 ·have h4:=ZfY J .s (n:=false) (x:=255) (w:=4194304) (by decide) (Or.inl (by decide))
  simp only [fldA,Fm.u,Fm.fr,Fm.most,Fm.nan,Fm.inf,Fm.sgn,Fm.sg,Int.cast_ofNat_Int,Nat.reducePow,Nat.reduceMul,Nat.reduceSub,Nat.reduceAdd,Bool.false_eq_true,if_false] at *
  repeat' (first|simp (maxSteps:=9^7) only [seval,exC,Zfg,h1,h2,h4]|simp (maxSteps:=9^7) (disch:=first|with_reducible assumption|omega) only [dxB]|(simp only [kdB];split)|(simp only [kvB];split))
 ·have h4:=ZfY J .d (n:=false) (x:=2047) (w:=2251799813685248) (by decide) (Or.inl (by decide))
  simp only [fldA,Fm.u,Fm.fr,Fm.most,Fm.nan,Fm.inf,Fm.sgn,Fm.sg,Int.cast_ofNat_Int,Nat.reducePow,Nat.reduceMul,Nat.reduceSub,Nat.reduceAdd,Bool.false_eq_true,if_false] at *
  repeat' (first|simp (maxSteps:=9^7) only [seval,exC,Zfg,h1,h2,h4]|simp (maxSteps:=9^7) (disch:=first|with_reducible assumption|omega) only [dxB]|(simp only [kdB];split)|(simp only [kvB];split))
theorem ZcV {F : Fm} {w : Nat} (h : F.fin w) : F.vl w = F.val w:=if_pos h
theorem rp_0 (h : Mem) (x : AV) (l : List AV) : rdAt G h 1 (.iptr (x :: l) 0) = some [x]:=by simp [rdAt]
theorem rp_1 (h : Mem) (x y : AV) (l : List AV) : rdAt G h 1 (.iptr (x :: y :: l) 1) = some [y]:=by simp [rdAt]
theorem rp_2 (h : Mem) (x y z : AV) (l : List AV) : rdAt G h 1 (.iptr (x :: y :: z :: l) 2) = some [z]:=by simp [rdAt]
theorem wr_1 : IntKind.i64.wrap (0 + 1) = 1:=rfl
theorem wr_2 : IntKind.i64.wrap (1 + 1) = 2:=rfl
theorem wr1 : IntKind.i64.wrap 1 = 1:=rfl
theorem wr2 : IntKind.i64.wrap 2 = 2:=rfl
end Go.Cv
namespace Go.Cv
variable {G : Nat→Option (List AV)} {T : Tbl} {g : Nat}
section
variable (a1 a2 a3 a4 a5 b1 b2 b3 b4 b5 c1 c2 c3 c4 c5 : AV) (k : IntKind)
end
end Go.Cv
namespace Go.Cv
variable {G : Nat→Option (List AV)} {T : Tbl} {g : Nat}
end Go.Cv
namespace Go.Cv
variable {G : Nat→Option (List AV)} {T : Tbl} {g : Nat}
section
variable {f md a b c e : Int}
end
end Go.Cv
namespace Go.Cv
variable {G : Nat→Option (List AV)} {T : Tbl} {g : Nat}
def zA (a b : Nat) : AV:=.agg [.int .u64 (a : Int),.int .u64 (b : Int)]
def zcl (c c' : Int) : Int:=if c = 4∨c' = 4 then 3 else if c = 5∨c' = 5 then 4 else if c = 1∧c' = 1 then 1 else 2
def sqD (F : Fm) (a b : Nat) : Dy:=addD (mulD (F.vl a) (F.vl a)) (mulD (F.vl b) (F.vl b))
theorem ZhL (J : Al G T g) (F : Fm) {a b : Nat} (ha : a < 2 * F.sg) (hb : b < 2 * F.sg) : run G T 189 [.int .u8 F.u,zA a b] = some (.tup [.int .u8 (zcl (F.cls a) (F.cls b)),.int .i64 0]):=by
 rw [Zac G T J.U.ZhL]
 have h1:=ZhV J F ha
 have h2:=ZhV J F hb
 unfold zcl
 generalize F.cls a = c at *
 generalize F.cls b = d at *
 simp only [zA] at *
 by_cases q4 : c = 4∨d = 4
 ·rw [if_pos q4]
  by_cases k : c = 4
  ·repeat' (first|simp (maxSteps:=9^7) only [seval,exC,Zbu,h1,h2,k]|simp (maxSteps:=9^7) (disch:=first|with_reducible assumption|omega) only [dxB]|(simp only [kdB];split)|(simp only [kvB];split))
  ·have k2 : d = 4:=by omega
   repeat' (first|simp (maxSteps:=9^7) only [seval,exC,Zbu,h1,h2,k,k2]|simp (maxSteps:=9^7) (disch:=first|with_reducible assumption|omega) only [dxB]|(simp only [kdB];split)|(simp only [kvB];split))
 ·rw [if_neg q4]
  have k1 : ¬ c = 4:=by omega
  have k2 : ¬ d = 4:=by omega
  by_cases q5 : c = 5∨d = 5
  ·rw [if_pos q5]
   by_cases k : c = 5
   ·subst k; repeat' (first|simp (maxSteps:=9^7) only [seval,exC,Zbu,h1,h2,k2]|simp (maxSteps:=9^7) (disch:=first|with_reducible assumption|omega) only [dxB]|(simp only [kdB];split)|(simp only [kvB];split))
   ·have k3 : d = 5:=by omega
    subst k3; repeat' (first|simp (maxSteps:=9^7) only [seval,exC,Zbu,h1,h2,k,k1]|simp (maxSteps:=9^7) (disch:=first|with_reducible assumption|omega) only [dxB]|(simp only [kdB];split)|(simp only [kvB];split))
  ·rw [if_neg q5]
   have k3 : ¬ c = 5:=by omega
   have k4 : ¬ d = 5:=by omega
   by_cases q1 : c = 1∧d = 1
   ·rw [if_pos q1]
    obtain ⟨rfl,rfl⟩:=q1
    repeat' (first|simp (maxSteps:=9^7) only [seval,exC,Zbu,h1,h2]|simp (maxSteps:=9^7) (disch:=first|with_reducible assumption|omega) only [dxB]|(simp only [kdB];split)|(simp only [kvB];split))
   ·rw [if_neg q1]
    by_cases k5 : c = 1
    ·have k6 : ¬ d = 1:=fun h => q1 ⟨k5,h⟩
     subst k5; repeat' (first|simp (maxSteps:=9^7) only [seval,exC,Zbu,h1,h2,k2,k4,k6]|simp (maxSteps:=9^7) (disch:=first|with_reducible assumption|omega) only [dxB]|(simp only [kdB];split)|(simp only [kvB];split))
    ·repeat' (first|simp (maxSteps:=9^7) only [seval,exC,Zbu,h1,h2,k1,k2,k3,k4,k5]|simp (maxSteps:=9^7) (disch:=first|with_reducible assumption|omega) only [dxB]|(simp only [kdB];split)|(simp only [kvB];split))
theorem ZCu (F : Fm) (a b : Nat) : Bd (sqD F a b) 65537:=(ZkW (Zja (Zfq F a) (Zfq F a)) (Zja (Zfq F b) (Zfq F b))).mono (by decide)
theorem Zzk (F : Fm) (a b : Nat) : Nz (sqD F a b):=Zht (Zcj _ _) (Zcj _ _)
theorem Zre (d : Dy) : (mulD d d).n = false:=by
 unfold mulD
 rw [show (d.n != d.n) = false by cases d.n <;> rfl]
 unfold mkD; split <;> rfl
theorem ZGB (F : Fm) (a b : Nat) : (sqD F a b).n = false:=by
 unfold sqD
 have h1:=Zre (F.vl a)
 have h2:=Zre (F.vl b)
 generalize mulD (F.vl a) (F.vl a) = x at *
 generalize mulD (F.vl b) (F.vl b) = y at *
 unfold addD
 rw [h1,h2]
 repeat' split
 all_goals first | assumption | (unfold mkD; split <;> rfl)
theorem Zhs (J : Al G T g) (F : Fm) {a b : Nat} (ha : a < 2 * F.sg) (hb : b < 2 * F.sg) :
  ∃ z,run G T 191 [.int .u8 F.u,zA a b] = some (DyA z (sqD F a b)):=by
 obtain ⟨z1,k1,v1⟩:=ZeE J F ha
 obtain ⟨z2,k2,v2⟩:=ZeE J F hb
 have b1:=Zfq F a
 have b2:=Zfq F b
 have y1:=ZbL (Zfw F a) (b1.mono (by decide))
 have y2:=ZbL (Zfw F b) (b2.mono (by decide))
 obtain ⟨z3,m1⟩:=Zll J (z:=z1) (y:=z1) (b1.mono (by decide)) (b1.mono (by decide)) y1 y1
 obtain ⟨z4,m2⟩:=Zll J (z:=z2) (y:=z2) (b2.mono (by decide)) (b2.mono (by decide)) y2 y2
 have b3:=Zja b1 b1
 have b4:=Zja b2 b2
 obtain ⟨z5,s1⟩:=Zlk J (z:=z3) (y:=z4) b3 b4 (ZbL (Zcj _ _) (b3.mono (by decide))) (ZbL (Zcj _ _) (b4.mono (by decide)))
 refine ⟨z5,?_⟩
 rw [Zac G T J.U.Zhs]
 unfold sqD
 generalize addD (mulD (F.vl a) (F.vl a)) (mulD (F.vl b) (F.vl b)) = d at *
 generalize mulD (F.vl a) (F.vl a) = p at *
 generalize mulD (F.vl b) (F.vl b) = q at *
 generalize F.vl a = va at *
 generalize F.vl b = vb at *
 clear b1 b2 b3 b4 y1 y2
 simp only [zA,DyA,A3] at *
 repeat' (first|simp (maxSteps:=9^7) only [seval,exC,Zdi,v1,v2,m1,m2,s1]|simp (maxSteps:=9^7) (disch:=first|with_reducible assumption|omega) only [dxB]|(simp only [kdB];split)|(simp only [kvB];split))
def toldW (F : Fm) (c : Int) (X : Nat × Nat) : Nat × Nat:=if c = 3 then (F.inf false,0) else if c = 4 then (F.nan,0) else X
theorem Zjw (J : Al G T g) (F : Fm) {md : Int} (hm : 1≤md∧md≤5) {a b : Nat} (ha : a < 2 * F.sg) (hb : b < 2 * F.sg) {k : Nat} {X : Nat × Nat}
  (hk : ∀ z,run G T k [.int .u8 F.u,.int .u8 md,DyA z (sqD F a b)] = some (.tup [.int .u64 (X.1 : Int),.int .u8 (X.2 : Int),.int .i64 0])) :
  run G T 186 [.int .u8 F.u,.int .u8 md,zA a b,.fn k []] = some (.tup [.int .u64 ((toldW F (zcl (F.cls a) (F.cls b)) X).1 : Int),.int .u8 ((toldW F (zcl (F.cls a) (F.cls b)) X).2 : Int),.int .i64 0]):=by
 rw [Zac G T J.U.Zjw]
 have o1:=ZhQ J F hm (neg:=false)
 have c1:=ZhL J F ha hb
 have i1:=ZiW J F (n:=false)
 have n1:=Zmd J F
 obtain ⟨z,s1⟩:=Zhs J F ha hb
 have hk:=hk z
 unfold toldW
 generalize zcl (F.cls a) (F.cls b) = c at *
 generalize sqD F a b = d at *
 simp only [zA,DyA,A3] at *
 by_cases k3 : c = 3
 ·rw [if_pos k3]
  repeat' (first|simp (maxSteps:=9^7) only [seval,exC,Zcc,o1,c1,k3,i1]|simp (maxSteps:=9^7) (disch:=first|with_reducible assumption|omega) only [dxB]|(simp only [kdB];split)|(simp only [kvB];split))
  all_goals rfl
 ·rw [if_neg k3]
  by_cases k4 : c = 4
  ·rw [if_pos k4]
   subst k4
   repeat' (first|simp (maxSteps:=9^7) only [seval,exC,Zcc,o1,c1,n1]|simp (maxSteps:=9^7) (disch:=first|with_reducible assumption|omega) only [dxB]|(simp only [kdB];split)|(simp only [kvB];split))
   all_goals rfl
  ·rw [if_neg k4]
   repeat' (first|simp (maxSteps:=9^7) only [seval,exC,Zcc,o1,c1,k3,k4,s1,hk]|simp (maxSteps:=9^7) (disch:=first|with_reducible assumption|omega) only [dxB]|(simp only [kdB];split)|(simp only [kvB];split))
   all_goals try rfl
noncomputable def rtW (F : Fm) (md : Int) (d : Dy) : Nat × Nat:=if d.m = 0 then (0,0) else rootW F md d
noncomputable def absZ (F : Fm) (md : Int) (a b : Nat) : Nat × Nat:=toldW F (zcl (F.cls a) (F.cls b)) (rtW F md (sqD F a b))
theorem ZiI (J : Al G T g) (F : Fm) {md : Int} (hm : 1≤md∧md≤5) {a b : Nat} (ha : a < 2 * F.sg) (hb : b < 2 * F.sg) :
  run G T 169 [.int .u8 F.u,.int .u8 md,zA a b] = some (.tup [.int .u64 ((absZ F md a b).1 : Int),.int .u8 ((absZ F md a b).2 : Int),.int .i64 0]):=by
 rw [Zac G T J.U.ZiI]
 have hd:=ZbL (Zzk F a b) ((ZCu F a b).mono (show 65537≤131072 by decide))
 have h1:=Zjw J F hm ha hb (k:=18) (X:=rtW F md (sqD F a b)) (fun z => by
  unfold rtW
  by_cases h0 : (sqD F a b).m = 0
  ·rw [if_pos h0]; exact Zos J F hm hd h0
  ·rw [if_neg h0]; exact Zkq J F hm hd h0 (ZGB F a b))
 unfold absZ
 generalize toldW F (zcl (F.cls a) (F.cls b)) (rtW F md (sqD F a b)) = S at *
 simp only [zA] at *
 repeat' (first|simp (maxSteps:=9^7) only [seval,exC,ZfA,h1]|simp (maxSteps:=9^7) (disch:=first|with_reducible assumption|omega) only [dxB]|(simp only [kdB];split)|(simp only [kvB];split))
 all_goals try rfl
end Go.Cv
namespace Go.Cv
variable {G : Nat→Option (List AV)} {T : Tbl} {g : Nat}
theorem ZkP (J : Al G T g) (F : Fm) {a b : Nat} (ha : a < 2 * F.sg) (hb : b < 2 * F.sg) : run G T 237 [.int .u8 F.u,zA a b] = some (.int .u8 (zcl (F.cls a) (F.cls b))):=by
 rw [Zac G T J.H.ZkP]
 have h1:=ZeC J F (ZbS ha)
 have h2:=ZeC J F (ZbS hb)
 unfold zcl
 generalize F.cls a = c at *
 generalize F.cls b = d at *
 simp only [zA] at *
 by_cases q4 : c = 4∨d = 4
 ·rw [if_pos q4]
  by_cases k : c = 4
  ·repeat' (first|simp (maxSteps:=9^7) only [seval,exC,Zbd,h1,h2,k]|simp (maxSteps:=9^7) (disch:=first|with_reducible assumption|omega) only [dxB]|(simp only [kdB];split)|(simp only [kvB];split))
  ·have k2 : d = 4:=by omega
   repeat' (first|simp (maxSteps:=9^7) only [seval,exC,Zbd,h1,h2,k,k2]|simp (maxSteps:=9^7) (disch:=first|with_reducible assumption|omega) only [dxB]|(simp only [kdB];split)|(simp only [kvB];split))
 ·rw [if_neg q4]
  have k1 : ¬ c = 4:=by omega
  have k2 : ¬ d = 4:=by omega
  by_cases q5 : c = 5∨d = 5
  ·rw [if_pos q5]
   by_cases k : c = 5
   ·subst k; repeat' (first|simp (maxSteps:=9^7) only [seval,exC,Zbd,h1,h2,k2]|simp (maxSteps:=9^7) (disch:=first|with_reducible assumption|omega) only [dxB]|(simp only [kdB];split)|(simp only [kvB];split))
   ·have k3 : d = 5:=by omega
    subst k3; repeat' (first|simp (maxSteps:=9^7) only [seval,exC,Zbd,h1,h2,k,k1]|simp (maxSteps:=9^7) (disch:=first|with_reducible assumption|omega) only [dxB]|(simp only [kdB];split)|(simp only [kvB];split))
  ·rw [if_neg q5]
   have k3 : ¬ c = 5:=by omega
   have k4 : ¬ d = 5:=by omega
   by_cases q1 : c = 1∧d = 1
   ·rw [if_pos q1]
    obtain ⟨rfl,rfl⟩:=q1
    repeat' (first|simp (maxSteps:=9^7) only [seval,exC,Zbd,h1,h2]|simp (maxSteps:=9^7) (disch:=first|with_reducible assumption|omega) only [dxB]|(simp only [kdB];split)|(simp only [kvB];split))
   ·rw [if_neg q1]
    by_cases k5 : c = 1
    ·have k6 : ¬ d = 1:=fun h => q1 ⟨k5,h⟩
     subst k5; repeat' (first|simp (maxSteps:=9^7) only [seval,exC,Zbd,h1,h2,k2,k4,k6]|simp (maxSteps:=9^7) (disch:=first|with_reducible assumption|omega) only [dxB]|(simp only [kdB];split)|(simp only [kvB];split))
    ·repeat' (first|simp (maxSteps:=9^7) only [seval,exC,Zbd,h1,h2,k1,k2,k3,k4,k5]|simp (maxSteps:=9^7) (disch:=first|with_reducible assumption|omega) only [dxB]|(simp only [kdB];split)|(simp only [kvB];split))
theorem ZEd {F : Fm} {a b : Nat} (h3 : zcl (F.cls a) (F.cls b)≠3) (h4 : zcl (F.cls a) (F.cls b)≠4) : F.fin a∧F.fin b:=by
 have ra:=Zgp F a
 have rb:=Zgp F b
 unfold zcl at h3 h4
 have k1 : ¬ (F.cls a = 4∨F.cls b = 4):=fun h => h3 (if_pos h)
 rw [if_neg k1] at h4
 have k2 : ¬ (F.cls a = 5∨F.cls b = 5):=fun h => h4 (if_pos h)
 exact ⟨ZaE.2 (by omega),ZaE.2 (by omega)⟩
theorem ZjH (J : Al G T g) (F : Fm) {a b : Nat} (ha : a < 2 * F.sg) (hb : b < 2 * F.sg) (fa : F.fin a) (fb : F.fin b) :
  ∃ z,run G T 236 [.int .u8 F.u,zA a b] = some (DyA z (sqD F a b)):=by
 obtain ⟨z1,v1⟩:=ZiM J F (ZbS ha) fa
 obtain ⟨z2,v2⟩:=ZiM J F (ZbS hb) fb
 rw [← ZcV fa] at v1
 rw [← ZcV fb] at v2
 obtain ⟨p1,p2,p3⟩:=Zfq F a
 obtain ⟨q1,q2,q3⟩:=Zfq F b
 have hl1:=Zaa (F.vl a).m
 have hl2:=Zaa (F.vl b).m
 obtain ⟨z3,m1⟩:=ZlL J (z:=z1) (y:=z1) (a:=F.vl a) (b:=F.vl a) (by omega) (by omega) (by omega) (by omega)
 obtain ⟨z4,m2⟩:=ZlL J (z:=z2) (y:=z2) (a:=F.vl b) (b:=F.vl b) (by omega) (by omega) (by omega) (by omega)
 obtain ⟨z5,s1⟩:=ZhO J (z:=z3) (y:=z4) (a:=mulD (F.vl a) (F.vl a)) (b:=mulD (F.vl b) (F.vl b)) ((Zja (Zfq F a) (Zfq F a)).mono (by decide)) ((Zja (Zfq F b) (Zfq F b)).mono (by decide))
 refine ⟨z5,?_⟩
 rw [show mkD ((F.vl a).n != (F.vl a).n) ((F.vl a).m * (F.vl a).m) ((F.vl a).e + (F.vl a).e) = mulD (F.vl a) (F.vl a) from rfl] at m1
 rw [show mkD ((F.vl b).n != (F.vl b).n) ((F.vl b).m * (F.vl b).m) ((F.vl b).e + (F.vl b).e) = mulD (F.vl b) (F.vl b) from rfl] at m2
 rw [Zac G T J.H.ZjH]
 unfold sqD
 generalize addD (mulD (F.vl a) (F.vl a)) (mulD (F.vl b) (F.vl b)) = d at *
 generalize mulD (F.vl a) (F.vl a) = p at *
 generalize mulD (F.vl b) (F.vl b) = q at *
 generalize F.vl a = va at *
 generalize F.vl b = vb at *
 simp only [zA,DyA,A3] at *
 repeat' (first|simp (maxSteps:=9^7) only [seval,exC,ZeP,v1,v2,m1,m2,s1]|simp (maxSteps:=9^7) (disch:=first|with_reducible assumption|omega) only [dxB]|(simp only [kdB];split)|(simp only [kvB];split))
theorem Zmw (J : Al G T g) (F : Fm) {a b : Nat} (ha : a < 2 * F.sg) (hb : b < 2 * F.sg) :
  (zcl (F.cls a) (F.cls b) = 3∧run G T 235 [.int .u8 F.u,zA a b] = some (.tup [.int .u64 ((F.inf false : Nat) : Int),.bool true])) ∨
  (zcl (F.cls a) (F.cls b) = 4∧run G T 235 [.int .u8 F.u,zA a b] = some (.tup [.int .u64 (F.nan : Int),.bool true])) ∨
  ((zcl (F.cls a) (F.cls b)≠3∧zcl (F.cls a) (F.cls b)≠4)∧run G T 235 [.int .u8 F.u,zA a b] = some (.tup [.int .u64 0,.bool false])):=by
 have c1:=ZkP J F ha hb
 have i1:=ZlN J F (n:=false)
 have n1:=Zmt J F
 rw [Zac G T J.H.Zmw]
 generalize zcl (F.cls a) (F.cls b) = c at *
 simp only [zA] at *
 by_cases k3 : c = 3
 ·left; refine ⟨k3,?_⟩
  subst k3
  repeat' (first|simp (maxSteps:=9^7) only [seval,exC,Zdz,c1,i1]|simp (maxSteps:=9^7) (disch:=first|with_reducible assumption|omega) only [dxB]|(simp only [kdB];split)|(simp only [kvB];split))
 ·right
  by_cases k4 : c = 4
  ·left; refine ⟨k4,?_⟩
   subst k4
   repeat' (first|simp (maxSteps:=9^7) only [seval,exC,Zdz,c1,n1]|simp (maxSteps:=9^7) (disch:=first|with_reducible assumption|omega) only [dxB]|(simp only [kdB];split)|(simp only [kvB];split))
  ·right; refine ⟨⟨k3,k4⟩,?_⟩
   repeat' (first|simp (maxSteps:=9^7) only [seval,exC,Zdz,c1,k3,k4]|simp (maxSteps:=9^7) (disch:=first|with_reducible assumption|omega) only [dxB]|(simp only [kdB];split)|(simp only [kvB];split))
theorem Zol (J : Al G T g) (F : Fm) {md : Int} (hm : 1≤md∧md≤5) {a b : Nat} (ha : a < 2 * F.sg) (hb : b < 2 * F.sg) :
  run G T 227 [.int .u8 F.u,.int .u8 md,zA a b] = some (.tup [.int .u64 ((absZ F md a b).1 : Int),.int .u8 ((absZ F md a b).2 : Int)]):=by
 rw [Zac G T J.H.Zol]
 unfold absZ toldW
 rcases Zmw J F ha hb with ⟨k,e1⟩ | ⟨k,e1⟩ | ⟨⟨k3,k4⟩,e1⟩
 ·rw [if_pos k]
  simp only [zA] at *
  repeat' (first|simp (maxSteps:=9^7) only [seval,exC,Zeu,e1]|simp (maxSteps:=9^7) (disch:=first|with_reducible assumption|omega) only [dxB]|(simp only [kdB];split)|(simp only [kvB];split))
  all_goals rfl
 ·rw [if_neg (by omega),if_pos k]
  simp only [zA] at *
  repeat' (first|simp (maxSteps:=9^7) only [seval,exC,Zeu,e1]|simp (maxSteps:=9^7) (disch:=first|with_reducible assumption|omega) only [dxB]|(simp only [kdB];split)|(simp only [kvB];split))
  all_goals rfl
 ·rw [if_neg k3,if_neg k4]
  obtain ⟨fa,fb⟩:=ZEd k3 k4
  obtain ⟨z,s1⟩:=ZjH J F ha hb fa fb
  have r1 : run G T 19 [.int .u8 F.u,.int .u8 md,DyA z (sqD F a b)] = some (.tup [.int .u64 ((rtW F md (sqD F a b)).1 : Int),.int .u8 ((rtW F md (sqD F a b)).2 : Int)]):=by
   unfold rtW
   have hb1:=(ZCu F a b).bl
   by_cases h0 : (sqD F a b).m = 0
   ·rw [if_pos h0]; exact Zoj J F h0
   ·rw [if_neg h0]; exact Zko J F hm h0 ((ZCu F a b).mono (by decide)) (by omega)
  generalize rtW F md (sqD F a b) = S at *
  generalize sqD F a b = d at *
  simp only [zA,DyA,A3] at *
  repeat' (first|simp (maxSteps:=9^7) only [seval,exC,Zeu,e1,s1,r1]|simp (maxSteps:=9^7) (disch:=first|with_reducible assumption|omega) only [dxB]|(simp only [kdB];split)|(simp only [kvB];split))
  all_goals try rfl
theorem Zjr (e : Env) (h : Heap) : evL G T Zgo e h = kS G T (evL G T ZaK (keepE [0,1,5] e) h) Zgo:=Zaf G T rfl e h
section
variable (x y u v : AV) (k : IntKind)
theorem ZDf : iaddrV 2 (.imm 1 [x,y]) (.int k 0) = some (.iptr [x,y] 0):=rfl
theorem Zvr : iaddrV 2 (.imm 2 [x,y,u,v]) (.int k 0) = some (.iptr [x,y,u,v] 0):=rfl
theorem Zvs : iaddrV 2 (.imm 2 [x,y,u,v]) (.int k 1) = some (.iptr [x,y,u,v] 2):=rfl
theorem fa_i (off o : Nat) (cs : List AV) : faddrA off (.iptr cs o) = some (.iptr cs (o + off)):=rfl
theorem rp_3 (h : Mem) (l : List AV) : rdAt G h 1 (.iptr (x :: y :: u :: v :: l) 3) = some [v]:=by simp [rdAt]
end
theorem Zdg (F : CallF) (d : Option Nat) (os : List IOper) (e : Env) (h : Heap) (n : Nat) (zero : List AV) (ps : List (Nat × Nat × IOpd)) : evOps G F (⟨d,.bslice n 2 zero ps,none⟩ :: os) e h =
  kBs G F (fillA (repA n zero) (ps.map fun (o,n,x) => (o,n,opd e x))) (.own h.b.length 0 n 2) d os e h:=ZjR G F d os e h n 2 zero ps
theorem ZiP (J : Al G T g) (F : Fm) {a b : Nat} (ha : a < 18446744073709551616) (hb : b < 18446744073709551616) :
  run G T 185 [.int .u8 F.u,.imm 1 [.int .u64 (a : Int),.int .u64 (b : Int)]] = some (.int .i64 (if a < 2 * F.sg∧b < 2 * F.sg then 0 else 6)):=by
 rw [Zac G T J.U.ref10_Good]
 have h1:=ZjD J F
 have h3:=ZcO J F ha
 have h4:=ZcO J F hb
 by_cases k1 : a < 2 * F.sg
 ·rw [if_pos k1] at h3
  by_cases k2 : b < 2 * F.sg
  ·rw [if_pos k2] at h4
   rw [if_pos ⟨k1,k2⟩]
   repeat' (first|simp (maxSteps:=9^7) only [seval,exC,Zbf,h1,Zjr,ZaK,ZDf,fa_i,rp_0,rp_1,wr_1,wr1,h3,h4]|simp (maxSteps:=9^7) (disch:=first|with_reducible assumption|omega) only [dxB]|(simp only [kdB];split)|(simp only [kvB];split))
  ·rw [if_neg k2] at h4
   rw [if_neg (fun h => k2 h.2)]
   repeat' (first|simp (maxSteps:=9^7) only [seval,exC,Zbf,h1,Zjr,ZaK,ZDf,fa_i,rp_0,rp_1,wr_1,wr1,h3,h4]|simp (maxSteps:=9^7) (disch:=first|with_reducible assumption|omega) only [dxB]|(simp only [kdB];split)|(simp only [kvB];split))
 ·rw [if_neg k1] at h3
  rw [if_neg (fun h => k1 h.1)]
  repeat' (first|simp (maxSteps:=9^7) only [seval,exC,Zbf,h1,Zjr,ZaK,ZDf,fa_i,rp_0,rp_1,wr_1,wr1,h3]|simp (maxSteps:=9^7) (disch:=first|with_reducible assumption|omega) only [dxB]|(simp only [kdB];split)|(simp only [kvB];split))
theorem Zok (J : Al G T g) (F : Fm) {a b c d : Nat} (ha : a < 18446744073709551616) (hb : b < 18446744073709551616) (hc : c < 18446744073709551616) (hd : d < 18446744073709551616) :
  run G T 185 [.int .u8 F.u,.imm 2 [.int .u64 (a : Int),.int .u64 (b : Int),.int .u64 (c : Int),.int .u64 (d : Int)]] = some (.int .i64 (if (a < 2 * F.sg∧b < 2 * F.sg)∧(c < 2 * F.sg∧d < 2 * F.sg) then 0 else 6)):=by
 rw [Zac G T J.U.ref10_Good]
 have h1:=ZjD J F
 have h3:=ZcO J F ha
 have h4:=ZcO J F hb
 have h5:=ZcO J F hc
 have h6:=ZcO J F hd
 by_cases k1 : a < 2 * F.sg
 ·rw [if_pos k1] at h3
  by_cases k2 : b < 2 * F.sg
  ·rw [if_pos k2] at h4
   by_cases k3 : c < 2 * F.sg
   ·rw [if_pos k3] at h5
    by_cases k4 : d < 2 * F.sg
    ·rw [if_pos k4] at h6
     rw [if_pos ⟨⟨k1,k2⟩,k3,k4⟩]
     repeat' (first|simp (maxSteps:=9^7) only [seval,exC,Zbf,h1,Zjr,ZaK,Zvr,Zvs,fa_i,rp_0,rp_1,rp_2,rp_3,wr_1,wr1,wr_2,wr2,h3,h4,h5,h6]|simp (maxSteps:=9^7) (disch:=first|with_reducible assumption|omega) only [dxB]|(simp only [kdB];split)|(simp only [kvB];split))
    ·rw [if_neg k4] at h6
     rw [if_neg (fun h => k4 h.2.2)]
     repeat' (first|simp (maxSteps:=9^7) only [seval,exC,Zbf,h1,Zjr,ZaK,Zvr,Zvs,fa_i,rp_0,rp_1,rp_2,rp_3,wr_1,wr1,wr_2,wr2,h3,h4,h5,h6]|simp (maxSteps:=9^7) (disch:=first|with_reducible assumption|omega) only [dxB]|(simp only [kdB];split)|(simp only [kvB];split))
   ·rw [if_neg k3] at h5
    rw [if_neg (fun h => k3 h.2.1)]
    repeat' (first|simp (maxSteps:=9^7) only [seval,exC,Zbf,h1,Zjr,ZaK,Zvr,Zvs,fa_i,rp_0,rp_1,rp_2,rp_3,wr_1,wr1,wr_2,wr2,h3,h4,h5]|simp (maxSteps:=9^7) (disch:=first|with_reducible assumption|omega) only [dxB]|(simp only [kdB];split)|(simp only [kvB];split))
  ·rw [if_neg k2] at h4
   rw [if_neg (fun h => k2 h.1.2)]
   repeat' (first|simp (maxSteps:=9^7) only [seval,exC,Zbf,h1,Zjr,ZaK,Zvr,Zvs,fa_i,rp_0,rp_1,rp_2,rp_3,wr_1,wr1,wr_2,wr2,h3,h4]|simp (maxSteps:=9^7) (disch:=first|with_reducible assumption|omega) only [dxB]|(simp only [kdB];split)|(simp only [kvB];split))
 ·rw [if_neg k1] at h3
  rw [if_neg (fun h => k1 h.1.1)]
  repeat' (first|simp (maxSteps:=9^7) only [seval,exC,Zbf,h1,Zjr,ZaK,Zvr,Zvs,fa_i,rp_0,rp_1,rp_2,rp_3,wr_1,wr1,wr_2,wr2,h3]|simp (maxSteps:=9^7) (disch:=first|with_reducible assumption|omega) only [dxB]|(simp only [kdB];split)|(simp only [kvB];split))
end Go.Cv
namespace Go.Cv
variable {G : Nat→Option (List AV)} {T : Tbl} {g : Nat}
def Fm.min (F : Fm) (w : Nat) : Nat:=if F.cls w = 5 then F.nan else F.flip w
def Sim (F : Fm) (a b : Nat) : Prop:=F.cls a = F.cls b∧mulD (F.vl a) (F.vl a) = mulD (F.vl b) (F.vl b)
theorem Sim.refl (F : Fm) (a : Nat) : Sim F a a:=⟨rfl,rfl⟩
theorem Sim.trans {F : Fm} {a b c : Nat} (h : Sim F a b) (k : Sim F b c) : Sim F a c:=⟨h.1.trans k.1,h.2.trans k.2⟩
theorem neg_mul (d : Dy) : mulD (negD d) (negD d) = mulD d d:=by
 unfold negD
 split
 ·rfl
 ·unfold mulD; simp only; cases d.n <;> rfl
theorem ZiJ {a b : Dy} (h : a.m = 0∨b.m = 0) : mulD a b = ⟨false,0,0⟩:=by
 unfold mulD
 rcases h with h | h
 ·rw [h,Nat.zero_mul]; rfl
 ·rw [h,Nat.mul_zero]; rfl
theorem fd_3 (b : Bool) (x y : AV) : fieldA false 0 1 (.agg [.bool b,x,y]) = some (.bool b):=rfl
theorem ZDZ (F : Fm) (n : Bool) {k : Nat} {u : Int} (hk0 : k≠0) (hk1 : k < 2 ^ (F.fr + 1)) (hu : F.low≤u) (hku : u = F.low∨2 ^ F.fr≤k) (hs : F.enc k u < F.i0) : F.val (F.enc k u + F.sgn n) = mkD n k u:=by
 have hi:=ZcM F
 obtain ⟨e1,e2⟩:=Zdt n (by omega : F.enc k u < F.sg)
 have hp:=Nat.two_pow_pos F.fr
 rw [Nat.pow_succ] at hk1
 unfold Fm.val Fm.ex Fm.fc
 rw [e1,e2]
 rcases Nat.lt_or_ge k (2 ^ F.fr) with h | h
 ·have hul : u = F.low:=by
   rcases hku with q | q
   ·exact q
   ·omega
  have hE : F.enc k u = k:=by unfold Fm.enc; rw [hul,Int.sub_self]; simp
  rw [hE,Nat.div_eq_of_lt h,if_pos rfl,Nat.mod_eq_of_lt h,hul]
 ·have hE : F.enc k u = (k - 2 ^ F.fr) + 2 ^ F.fr * ((u - F.low).toNat + 1):=by
   unfold Fm.enc; rw [Nat.mul_add,Nat.mul_one,Nat.mul_comm]; omega
  have hlt : k - 2 ^ F.fr < 2 ^ F.fr:=by omega
  have hd : F.enc k u / 2 ^ F.fr = (u - F.low).toNat + 1:=by
   rw [hE,Nat.add_mul_div_left _ _ hp,Nat.div_eq_of_lt hlt,Nat.zero_add]
  have hm : F.enc k u % 2 ^ F.fr = k - 2 ^ F.fr:=by
   rw [hE,Nat.add_mul_mod_self_left,Nat.mod_eq_of_lt hlt]
  rw [hd,hm,if_neg (by omega),show 2 ^ F.fr + (k - 2 ^ F.fr) = k by omega]
  congr 1
  omega
theorem ZzK (F : Fm) {d : Dy} (h : F.fits d) (ho : d.m % 2 = 1) : ∃ s,s≠0∧s < F.i0∧F.val (s + F.sgn d.n) = d:=by
 obtain ⟨h0,h1,h2,h3⟩:=h
 have hF:=ZaM F
 obtain ⟨u,hu⟩ : ∃ u : Int,u = max (d.e + blen d.m - F.fr - 1) F.low:=⟨_,rfl⟩
 have hbp:=ZaS h0
 have hbk:=Zap h0 (d.e - u).toNat
 have hk0 : d.m * 2 ^ (d.e - u).toNat≠0:=by intro hc; rw [hc,Zal] at hbk; omega
 have hk1 : d.m * 2 ^ (d.e - u).toNat < 2 ^ (F.fr + 1):=Zae.1 (by omega)
 have hku : u = F.low∨2 ^ F.fr≤d.m * 2 ^ (d.e - u).toNat:=by
  by_cases q : u = F.low
  ·exact Or.inl q
  ·right; exact ZaA.1 (by omega)
 have hbig:=ZkF F (n:=d.m * 2 ^ (d.e - u).toNat) (u:=u) (by omega) (by omega) hku
 have hs : F.enc (d.m * 2 ^ (d.e - u).toNat) u < F.i0:=by
  rcases Nat.lt_or_ge (F.enc (d.m * 2 ^ (d.e - u).toNat) u) F.i0 with q | q
  ·exact q
  ·have:=hbig.2 q; omega
 refine ⟨F.enc (d.m * 2 ^ (d.e - u).toNat) u,?_,hs,?_⟩
 ·unfold Fm.enc; omega
 ·rw [ZDZ F d.n hk0 hk1 (by omega) hku hs]
  have:=ZpT (n:=d.n) (e:=d.e) ho (d.e - u).toNat
  rw [show d.e - ((d.e - u).toNat : Int) = u by omega] at this
  exact this
theorem Zlq (F : Fm) {w : Nat} (hf : F.fin w) (h0 : (F.val w).m≠0) : F.fits (F.val w):=by
 have hF:=ZaM F
 have hwd : F.low + F.fr + F.most - 1 = F.wide:=by cases F <;> decide
 have hy : F.fc w < 2 ^ F.fr:=Nat.mod_lt _ (Nat.two_pow_pos _)
 unfold Fm.fin at hf
 unfold Fm.val at h0 ⊢
 by_cases hx : F.ex w = 0
 ·rw [if_pos hx] at h0 ⊢
  have hk : F.fc w≠0:=by intro hc; rw [hc] at h0; exact h0 rfl
  have hb:=Zae.2 hy
  exact Zkk hk (by rw [Nat.pow_succ]; omega) (Int.le_refl _) (by omega)
 ·rw [if_neg hx] at h0 ⊢
  have hk : 2 ^ F.fr + F.fc w≠0:=by have:=Nat.two_pow_pos F.fr; omega
  have hb : blen (2 ^ F.fr + F.fc w)≤F.fr + 1:=Zae.2 (by rw [Nat.pow_succ]; omega)
  exact Zkk hk (by rw [Nat.pow_succ]; omega) (by omega) (by omega)
theorem sterbenz (F : Fm) {x y : Dy} (fx : x.m≠0→F.fits x) (fy : y.m≠0→F.fits y) (hn : x.n = y.n) (h1 : cmpD (absD x) (shD (absD y) 1)≤0) (h2 : cmpD (absD y) (shD (absD x) 1)≤0) (h0 : (subD x y).m≠0) : F.fits (subD x y):=by
 obtain ⟨L,hL⟩ : ∃ L : Int,L = min x.e y.e:=⟨_,rfl⟩
 have lx : LoE x L:=Or.inr (by omega)
 have ly : LoE y L:=Or.inr (by omega)
 have sh : ∀ (d : Dy) (h : LoE d L),iv (shD (absD d) 1) L = 2 * ((d.m * 2 ^ (d.e - L).toNat : Nat) : Int)∧LoE (shD (absD d) 1) L:=fun d h => by
  unfold shD absD
  by_cases q : d.m = 0
  ·simp only [q,if_true]; exact ⟨by simp [iv],Or.inl rfl⟩
  ·simp only [q,if_false]
   have hl:=h.resolve_left q
   refine ⟨?_,Or.inr (by simp only; omega)⟩
   unfold iv
   simp only [Bool.false_eq_true,if_false,Int.one_mul]
   rw [show (d.e + 1 - L).toNat = (d.e - L).toNat + 1 by omega,Nat.pow_succ,← Nat.mul_assoc]; omega
 have la : ∀ (d : Dy) (h : LoE d L),LoE (absD d) L:=fun d h => h
 rw [Znq (la x lx) (sh y ly).2,Zxk,(sh y ly).1] at h1
 rw [Znq (la y ly) (sh x lx).2,Zxk,(sh x lx).1] at h2
 have hs:=Zgr lx (Zpm ly)
 rw [ZtH] at hs
 rw [show addD x (negD y) = subD x y from rfl] at hs
 obtain ⟨hs1,hs2⟩:=hs
 have hle:=hs2.resolve_left h0
 unfold iv at hs1
 rw [hn] at hs1
 generalize hD : (subD x y).m * 2 ^ ((subD x y).e - L).toNat = D at *
 generalize hX : x.m * 2 ^ (x.e - L).toNat = X at *
 generalize hY : y.m * 2 ^ (y.e - L).toNat = Y at *
 have g1 : (X : Int)≤2 * Y:=by
  unfold sgI at h1; split at h1
  ·omega
  ·split at h1 <;> omega
 have g2 : (Y : Int)≤2 * X:=by
  unfold sgI at h2; split at h2
  ·omega
  ·split at h2 <;> omega
 have dX : D≤X∧D≤Y:=by
  generalize (subD x y).n = p at *
  generalize y.n = q at *
  cases p <;> cases q <;> simp only [Bool.false_eq_true,if_false,if_true] at hs1 <;> omega
 have Dp : 0 < D:=by rw [← hD]; exact Nat.mul_pos (Nat.pos_of_ne_zero h0) (Nat.two_pow_pos _)
 have x0 : x.m≠0:=by intro hc; rw [hc,Nat.zero_mul] at hX; omega
 have y0 : y.m≠0:=by intro hc; rw [hc,Nat.zero_mul] at hY; omega
 obtain ⟨_,x1,x2,x3⟩:=fx x0
 obtain ⟨_,y1,y2,y3⟩:=fy y0
 have bD:=Zap h0 ((subD x y).e - L).toNat
 have bX:=Zap x0 (x.e - L).toNat
 have bY:=Zap y0 (y.e - L).toNat
 rw [hD] at bD
 rw [hX] at bX
 rw [hY] at bY
 have m1:=ZaF dX.1
 have m2:=ZaF dX.2
 exact ⟨h0,by omega,by omega,by omega⟩
theorem ZAm (F : Fm) (md : Int) {a b : Nat} (fa : F.fin a) (fb : F.fin b) :
  (F.cls a = 1∧F.cls b = 1∧subW F md a b = (F.sgn (F.ng a),0))∨subW F md a b = sumW F md (subD (F.vl a) (F.vl b)):=by
 have ra:=ZaE.1 fa
 have rb:=ZaE.1 fb
 unfold subW addP
 rw [if_neg (show ¬ (F.cls a = 5∨F.cls b = 5) by omega),if_neg (show ¬ (F.cls a = 4∧F.cls b = 4∧F.ng a≠!F.ng b) from fun h => by have:=h.1; omega),if_neg (show ¬ F.cls a = 4 by omega),if_neg (show ¬ F.cls b = 4 by omega)]
 by_cases h : F.cls a = 1∧F.cls b = 1∧F.ng a = !F.ng b
 ·left; rw [if_pos h]; exact ⟨h.1,h.2.1,rfl⟩
 ·right; rw [if_neg h]; rfl
theorem ZDR (F : Fm) {md : Int} {d : Dy} (hz : Nz d) (hf : d.m≠0→F.fits d) : ∃ w : Nat,sumW F md d = (w,0)∧w < 2 * F.sg∧F.fin w∧F.val w = d:=by
 have hi:=ZcM F
 unfold sumW
 by_cases h0 : d.m = 0
 ·rw [if_pos h0]
  refine ⟨F.sgn (decide (md = 5)),rfl,?_,?_,?_⟩
  ·unfold Fm.sgn; split <;> omega
  ·have:=Zbw (F:=F) (s:=0) (decide (md = 5)) hi.2.1
   rwa [Nat.zero_add] at this
  ·have:=Zku F (decide (md = 5))
   rw [Nat.zero_add] at this
   rw [this,hz.1 h0]
 ·rw [if_neg h0]
  obtain ⟨s,s0,s1,s2⟩:=ZzK F (hf h0) (hz.2 h0)
  have hr:=(Zov F md d.n s1 s0).1
  rw [s2] at hr
  refine ⟨s + F.sgn d.n,hr,?_,Zbw d.n s1,s2⟩
  unfold Fm.sgn; split <;> omega
theorem near (F : Fm) {md : Int} {a b : Nat} (ha : a < 2 * F.sg) (hb : b < 2 * F.sg) (fa : F.fin a) (fb : F.fin b) (hn : (F.vl a).n = (F.vl b).n) (h1 : cmpD (absD (F.vl a)) (shD (absD (F.vl b)) 1)≤0) (h2 : cmpD (absD (F.vl b)) (shD (absD (F.vl a)) 1)≤0) :
  ∃ w : Nat,subW F md a b = (w,0)∧w < 2 * F.sg∧F.fin w∧F.val w = subD (F.vl a) (F.vl b):=by
 have hi:=ZcM F
 rcases ZAm F md fa fb with ⟨k1,k2,h⟩ | h
 ·rw [h]
  refine ⟨F.sgn (F.ng a),rfl,?_,?_,?_⟩
  ·unfold Fm.sgn; split <;> omega
  ·have:=Zbw (F:=F) (s:=0) (F.ng a) hi.2.1
   rwa [Nat.zero_add] at this
  ·have:=Zku F (F.ng a)
   rw [Nat.zero_add] at this
   rw [this,ZcV fa,ZcV fb,(Zkf ha k1).2,(Zkf hb k2).2]; rfl
 ·rw [h]
  refine ZDR F (Zht (Zfw F a) (ZoL (Zfw F b))) (sterbenz F ?_ ?_ hn h1 h2)
  ·intro q; rw [ZcV fa] at q ⊢; exact Zlq F fa q
  ·intro q; rw [ZcV fb] at q ⊢; exact Zlq F fb q
def P2 (k : Nat) : Int:=((2 ^ k : Nat) : Int)
theorem Zni (k : Nat) : 0 < P2 k:=by unfold P2; have:=Nat.two_pow_pos k; omega
theorem ZCy (k : Nat) : P2 (k + 1) = 2 * P2 k:=by unfold P2; rw [Nat.pow_succ]; omega
theorem Znh {i k : Nat} (h : i≤k) : P2 i ∣ P2 k:=by
 unfold P2; exact Int.natCast_dvd_natCast.2 (Nat.pow_dvd_pow 2 h)
def bl (n : Int) : Nat:=blen n.natAbs
theorem ZCI {n : Int} {k : Nat} : bl n≤k↔(n < P2 k∧-n < P2 k):=by
 unfold bl P2; rw [Zae]; omega
theorem ZEz {n : Int} (h : n≠0) : P2 (bl n - 1)≤n∨P2 (bl n - 1)≤-n:=by
 unfold bl P2; have:=Zbo (n:=n.natAbs) (by omega); omega
theorem ZAC (n : Int) : bl (-n) = bl n:=by unfold bl; rw [Int.natAbs_neg]
theorem ZqM {k : Nat} {x : Int} (h : P2 k ∣ x) (h1 : x < P2 k) (h2 : -x < P2 k) : x = 0:=by
 obtain ⟨q,rfl⟩:=h
 have hp:=Zni k
 rcases Int.lt_trichotomy q 0 with hq | hq | hq
 ·have:=Int.mul_le_mul_of_nonneg_left (show q≤-1 by omega) (Int.le_of_lt hp); omega
 ·rw [hq,Int.mul_zero]
 ·have:=Int.mul_le_mul_of_nonneg_left (show 1≤q by omega) (Int.le_of_lt hp); omega
def Rep (p : Nat) (n : Int) : Prop:=P2 (bl n - p) ∣ n
def Rn (p : Nat) (n r : Int) : Prop:=Rep p r∧P2 (bl n - p) ∣ r∧2 * (r - n)≤P2 (bl n - p)∧2 * (n - r)≤P2 (bl n - p)
theorem Rep.neg {p : Nat} {n : Int} (h : Rep p n) : Rep p (-n):=by
 unfold Rep at h ⊢; rw [ZAC]; exact Int.dvd_neg.2 h
theorem ZAx {p i : Nat} {n : Int} (h1 : P2 i ∣ n) (h2 : bl n≤p + i) : Rep p n:=Int.dvd_trans (Znh (by omega)) h1
theorem Zzl (p : Nat) : Rep p 0:=Int.dvd_zero _
theorem Rn.neg {p : Nat} {n r : Int} (h : Rn p n r) : Rn p (-n) (-r):=by
 obtain ⟨h0,h1,h2,h3⟩:=h
 unfold Rn; rw [ZAC]
 exact ⟨h0.neg,Int.dvd_neg.2 h1,by omega,by omega⟩
theorem Rn.exact {p : Nat} {n r : Int} (h : Rn p n r) {i : Nat} (hi : P2 i ∣ n) (hk : bl n - p≤i) : r = n:=by
 obtain ⟨_,h1,h2,h3⟩:=h
 have hp:=Zni (bl n - p)
 have:=ZqM (Int.dvd_sub h1 (Int.dvd_trans (Znh hk) hi)) (by omega) (by omega)
 omega
theorem Rn.near {p : Nat} (hp : 1≤p) {n r c : Int} (h : Rn p n r) (hc : Rep p c) : r - n≤(c - n).natAbs∧n - r≤(c - n).natAbs:=by
 have key : ∀ c,P2 (bl n - p) ∣ c→r - n≤(c - n).natAbs∧n - r≤(c - n).natAbs:=fun c hc => by
  obtain ⟨_,h1,h2,h3⟩:=h
  by_cases q : r = c
  ·subst q; omega
  ·have hd:=Int.dvd_sub h1 hc
   have hs : ¬ (r - c < P2 (bl n - p)∧-(r - c) < P2 (bl n - p)):=fun q1 => q (by have:=ZqM hd q1.1 q1.2; omega)
   omega
 by_cases q : bl n - p≤bl c - p
 ·exact key c (Int.dvd_trans (Znh q) hc)
 ·have hb : bl c≤bl n - 1:=by omega
  have hn0 : n≠0:=by rintro rfl; have : bl 0 = 0:=rfl; omega
  have hc1:=ZCI.1 hb
  have hd : P2 (bl n - p) ∣ P2 (bl n - 1):=Znh (by omega)
  have k1:=key _ hd
  have k2:=key _ (Int.dvd_neg.2 hd)
  have hpp:=Zni (bl n - 1)
  rcases ZEz hn0 with h4 | h4 <;> omega
theorem ZpP (d : Dy) (L : Int) : (iv d L = ((d.m * 2 ^ (d.e - L).toNat : Nat) : Int)∧d.n = false)∨(iv d L = -((d.m * 2 ^ (d.e - L).toNat : Nat) : Int)∧d.n = true):=by
 unfold iv; cases d.n <;> simp
theorem Zzs (d : Dy) (L : Int) : bl (iv d L) = blen (d.m * 2 ^ (d.e - L).toNat):=by
 unfold bl
 rcases ZpP d L with ⟨h,_⟩ | ⟨h,_⟩ <;> rw [h] <;> congr 1 <;> omega
theorem ZDC (F : Fm) {d : Dy} (h0 : d.m≠0) (hl : F.low≤d.e) (hv : (rndW F 1 d).2≠20) :
  (rndW F 1 d).1 < 2 * F.sg∧F.fin (rndW F 1 d).1∧Rn (F.fr + 1) (iv d F.low) (iv (F.val (rndW F 1 d).1) F.low)∧LoE (F.val (rndW F 1 d).1) F.low:=by
 have hF:=ZaM F
 obtain ⟨b1,b2,_,_⟩:=ZjL F (md:=1) h0
 obtain ⟨u,hu⟩ : ∃ u,u = F.eOf (d.e + blen d.m):=⟨_,rfl⟩
 have hue : u = max (d.e + blen d.m - F.fr - 1) F.low:=hu
 have hlo : F.low≤u:=by omega
 unfold rndW at hv ⊢
 simp only [if_neg h0] at hv ⊢
 rw [← hu] at b1 b2 hv ⊢
 have hbl : blen (d.m * 2 ^ (d.e - F.low).toNat) = blen d.m + (d.e - F.low).toNat:=Zap h0 _
 have hk : (u - F.low).toNat = blen (d.m * 2 ^ (d.e - F.low).toNat) - (F.fr + 1):=by omega
 obtain ⟨A,hA⟩ : ∃ A,A = d.m * 2 ^ (d.e - F.low).toNat:=⟨_,rfl⟩
 have hnear : 2 * ((((rnd 1 d.n d.m d.e u).1 * 2 ^ (u - F.low).toNat : Nat) : Int) - (A : Int))≤P2 (u - F.low).toNat∧2 * ((A : Int) - (((rnd 1 d.n d.m d.e u).1 * 2 ^ (u - F.low).toNat : Nat) : Int))≤P2 (u - F.low).toNat:=by
  by_cases q : u = F.low
  ·have : rnd 1 d.n d.m d.e u = (A,true):=by unfold rnd; rw [if_pos (by omega),hA,q]
   rw [this,q,Int.sub_self]
   have : P2 (0 : Int).toNat = 1:=rfl
   rw [this]
   simp only [Int.toNat_zero,Nat.pow_zero,Nat.mul_one]; omega
  ·obtain ⟨b,e,R⟩:=Zpa 1 d.n d.m (E:=d.e) (u:=u) (L:=F.low) hl (by omega)
   rw [← hA] at e R
   rw [e]
   obtain ⟨n1,n2⟩:=R.near (Or.inl rfl)
   unfold P2
   generalize 2 ^ (u - F.low).toNat = U at *
   generalize A / U = W at *
   have q2 : (2 * W + 1) * U = 2 * (W * U) + U:=by rw [Nat.add_mul,Nat.one_mul,Nat.mul_assoc]
   rw [q2] at n1 n2
   have lo:=R.lo
   have hi:=R.hi
   rw [Nat.add_mul,Nat.one_mul] at hi
   simp only [Nat.add_mul]
   generalize W * U = V at *
   cases b
   ·have:=n2 rfl; simp only [Bool.toNat_false,Nat.zero_mul]; omega
   ·have:=n1 rfl; simp only [Bool.toNat_true,Nat.one_mul]; omega
 generalize (rnd 1 d.n d.m d.e u).1 = K at *
 unfold wordOf at hv ⊢
 have hbig:=ZkF F (n:=K) (u:=u) b1 hlo b2
 by_cases ov : F.wide < blen K + u
 ·rw [if_pos ov] at hv; exact absurd rfl hv
 ·rw [if_neg ov]
  have hi:=ZcM F
  have hs : F.enc K u < F.i0:=by
   rcases Nat.lt_or_ge (F.enc K u) F.i0 with q | q
   ·exact q
   ·exact absurd (hbig.2 q) ov
  obtain ⟨v1,v2,_⟩:=ZqW (F:=F) d.n hs
  rw [Zlv F b1 hlo b2] at v1
  refine ⟨by unfold Fm.sgn; split <;> omega,Zbw d.n hs,?_,v2⟩
  have hd : P2 (u - F.low).toNat ∣ ((K * 2 ^ (u - F.low).toNat : Nat) : Int):=Int.natCast_dvd_natCast.2 ⟨K,Nat.mul_comm _ _⟩
  have hrep : Rep (F.fr + 1) ((K * 2 ^ (u - F.low).toNat : Nat) : Int):=by
   rcases Nat.lt_or_ge K (2 ^ (F.fr + 1)) with q | q
   ·refine ZAx hd ?_
    rw [ZCI]
    unfold P2
    rw [Nat.pow_add]
    have:=Nat.mul_lt_mul_of_pos_right q (Nat.two_pow_pos (u - F.low).toNat)
    generalize K * 2 ^ (u - F.low).toNat = X at *
    omega
   ·rw [show K = 2 ^ (F.fr + 1) by omega,← Nat.pow_add]
    refine ZAx (i:=(u - F.low).toNat + 1) (Znh (by omega)) ?_
    rw [ZCI,show F.fr + 1 + ((u - F.low).toNat + 1) = (F.fr + 1 + (u - F.low).toNat) + 1 by omega,ZCy]
    have:=Zni (F.fr + 1 + (u - F.low).toNat)
    unfold P2 at *
    omega
  simp only [] at v1 ⊢
  rw [v1]
  unfold Rn
  rw [Zzs,← hk]
  rcases ZpP d F.low with ⟨e,en⟩ | ⟨e,en⟩
  ·rw [e,en,← hA]; simp only [Bool.false_eq_true,if_false,Int.one_mul]
   exact ⟨hrep,hd,hnear.1,hnear.2⟩
  ·rw [e,en,← hA]; simp only [if_true]
   rw [Int.neg_mul,Int.one_mul]
   exact ⟨hrep.neg,Int.dvd_neg.2 hd,by omega,by omega⟩
def Fm.X (F : Fm) (w : Nat) : Int:=iv (F.vl w) F.low
theorem Zbi {F : Fm} {w : Nat} (hf : F.fin w) : LoE (F.vl w) F.low:=by
 by_cases h : (F.vl w).m = 0
 ·exact Or.inl h
 ·right; rw [ZcV hf] at h ⊢; exact (Zlq F hf h).2.2.1
theorem ZsA (p : Nat) : Rn p 0 0:=⟨Zzl p,Int.dvd_zero _,by have:=Zni (bl 0 - p); omega,by have:=Zni (bl 0 - p); omega⟩
theorem ZuS (F : Fm) {d : Dy} (hl : LoE d F.low) (hv : (sumW F 1 d).2≠20) : (sumW F 1 d).1 < 2 * F.sg∧F.fin (sumW F 1 d).1∧Rn (F.fr + 1) (iv d F.low) (F.X (sumW F 1 d).1):=by
 have hi:=ZcM F
 unfold sumW at hv ⊢
 by_cases h0 : d.m = 0
 ·rw [if_pos h0,ZaY h0]
  have e : F.sgn (decide ((1 : Int) = 5)) = 0:=rfl
  have hf : F.fin 0:=by have:=Zbw (F:=F) (s:=0) false hi.2.1; exact this
  refine ⟨by simp only [e]; omega,by simp only [e]; exact hf,?_⟩
  simp only [e]
  unfold Fm.X
  rw [ZcV hf]
  have:=Zku F false
  rw [show 0 + F.sgn false = 0 from rfl] at this
  rw [this,ZaY rfl]
  exact ZsA _
 ·rw [if_neg h0] at hv ⊢
  obtain ⟨h1,h2,h3,h4⟩:=ZDC F h0 (hl.resolve_left h0) hv
  refine ⟨h1,h2,?_⟩
  unfold Fm.X; rw [ZcV h2]; exact h3
theorem ZiX {F : Fm} {w : Nat} (hw : w < 2 * F.sg) (h : F.cls w = 1) : F.X w = 0:=by
 have hf : F.fin w:=ZaE.2 (Or.inl h)
 unfold Fm.X
 rw [ZcV hf,(Zkf hw h).2,ZaY rfl]
theorem ZjP (F : Fm) (n : Bool) : F.sgn n < 2 * F.sg∧F.fin (F.sgn n)∧F.vl (F.sgn n) = ⟨false,0,0⟩:=by
 have hi:=ZcM F
 have h:=Zbw (F:=F) (s:=0) n hi.2.1
 have h2:=Zku F n
 rw [Nat.zero_add] at h h2
 exact ⟨by unfold Fm.sgn; split <;> omega,h,by rw [ZcV h,h2]⟩
theorem ZvU (F : Fm) (n : Bool) : F.X (F.sgn n) = 0:=by unfold Fm.X; rw [(ZjP F n).2.2,ZaY rfl]
theorem ZjU (F : Fm) (md : Int) {c c' : Int} {n n' : Bool} {d d' : Dy} (h1 : c = 1∨c = 2∨c = 3) (h2 : c' = 1∨c' = 2∨c' = 3) :
  addP F md c n d c' n' d' = if c = 1∧c' = 1∧n = n' then (F.sgn n,0) else sumW F md (addD d d'):=by
 unfold addP
 rw [if_neg (by omega),if_neg (by omega),if_neg (by omega),if_neg (by omega)]
theorem ZvX (F : Fm) {a b : Nat} (ha : a < 2 * F.sg) (hb : b < 2 * F.sg) (fa : F.fin a) (fb : F.fin b) (hv : (addW F 1 a b).2≠20) :
  (addW F 1 a b).1 < 2 * F.sg∧F.fin (addW F 1 a b).1∧Rn (F.fr + 1) (F.X a + F.X b) (F.X (addW F 1 a b).1):=by
 unfold addW at hv ⊢
 rw [ZjU F 1 (ZaE.1 fa) (ZaE.1 fb)] at hv ⊢
 by_cases q : F.cls a = 1∧F.cls b = 1∧F.ng a = F.ng b
 ·rw [if_pos q]
  refine ⟨(ZjP F _).1,(ZjP F _).2.1,?_⟩
  rw [ZiX ha q.1,ZiX hb q.2.1,ZvU]; exact ZsA _
 ·rw [if_neg q] at hv ⊢
  obtain ⟨i1,i2⟩:=Zgr (Zbi fa) (Zbi fb)
  have:=ZuS F i2 hv
  rw [i1] at this; exact this
theorem ZyL (F : Fm) {a b : Nat} (ha : a < 2 * F.sg) (hb : b < 2 * F.sg) (fa : F.fin a) (fb : F.fin b) (hv : (subW F 1 a b).2≠20) :
  (subW F 1 a b).1 < 2 * F.sg∧F.fin (subW F 1 a b).1∧Rn (F.fr + 1) (F.X a - F.X b) (F.X (subW F 1 a b).1):=by
 unfold subW at hv ⊢
 rw [ZjU F 1 (ZaE.1 fa) (ZaE.1 fb)] at hv ⊢
 by_cases q : F.cls a = 1∧F.cls b = 1∧F.ng a = !F.ng b
 ·rw [if_pos q]
  refine ⟨(ZjP F _).1,(ZjP F _).2.1,?_⟩
  rw [ZiX ha q.1,ZiX hb q.2.1,ZvU]; exact ZsA _
 ·rw [if_neg q] at hv ⊢
  obtain ⟨i1,i2⟩:=ZnN (Zbi fa) (Zbi fb)
  have:=ZuS F i2 hv
  rw [i1] at this; exact this
theorem Zke {F : Fm} {w : Nat} (hw : w < 2 * F.sg) (hf : F.fin w) : F.cls w = 1↔(F.vl w).m = 0:=by
 rw [ZcV hf]
 constructor
 ·intro h; rw [(Zkf hw h).2]
 ·intro h
  have h1:=fun q => ZDY hw q hf
  exact Decidable.byContradiction fun q => h1 q h
theorem ZpV (F : Fm) (md : Int) {c c' : Int} {n n' : Bool} {d d' : Dy} (h1 : c = 1∨c = 2∨c = 3) (h2 : c' = 1∨c' = 2∨c' = 3) :
  mulP F md c n d c' n' d' = if c = 1∨c' = 1 then (F.sgn (n != n'),0) else sumW F md (mulD d d'):=by
 unfold mulP
 rw [if_neg (by omega),if_neg (by omega),if_neg (by omega)]
theorem ZFQ {a b : Dy} (ha : Nz a) (hb : Nz b) (h1 : a.m≠0) (h2 : b.m≠0) : mulD a b = ⟨a.n != b.n,a.m * b.m,a.e + b.e⟩:=by
 unfold mulD; exact ZpS (Zsx (ha.2 h1) (hb.2 h2))
theorem Zgs {a b : Dy} {K L : Int} (ha : LoE a K) (hb : LoE b L) : iv (mulD a b) (K + L) = iv a K * iv b L∧LoE (mulD a b) (K + L):=by
 by_cases h1 : a.m = 0
 ·have : mulD a b = ⟨false,0,0⟩:=ZiJ (Or.inl h1)
  rw [this,ZaY rfl,ZaY h1,Int.zero_mul]; exact ⟨rfl,Or.inl rfl⟩
 ·by_cases h2 : b.m = 0
  ·have : mulD a b = ⟨false,0,0⟩:=ZiJ (Or.inr h2)
   rw [this,ZaY rfl,ZaY h2,Int.mul_zero]; exact ⟨rfl,Or.inl rfl⟩
  ·have la:=ha.resolve_left h1
   have lb:=hb.resolve_left h2
   refine ⟨?_,ZcU (by omega)⟩
   unfold mulD
   rw [Zhr (by omega),show (a.e + b.e - (K + L)).toNat = (a.e - K).toNat + (b.e - L).toNat by omega,Nat.pow_add]
   unfold iv
   have e : a.m * b.m * (2 ^ (a.e - K).toNat * 2 ^ (b.e - L).toNat) = (a.m * 2 ^ (a.e - K).toNat) * (b.m * 2 ^ (b.e - L).toNat):=by
    simp only [Nat.mul_assoc,Nat.mul_left_comm,Nat.mul_comm]
   rw [e,Int.natCast_mul]
   generalize ((a.m * 2 ^ (a.e - K).toNat : Nat) : Int) = x
   generalize ((b.m * 2 ^ (b.e - L).toNat : Nat) : Int) = y
   cases a.n <;> cases b.n <;> simp [Int.neg_mul,Int.mul_neg]
theorem ZzU (a b : Dy) : mulD a (negD b) = negD (mulD a b):=by
 by_cases h1 : a.m = 0
 ·rw [ZiJ (Or.inl h1),ZiJ (Or.inl h1)]; rfl
 ·by_cases h2 : b.m = 0
  ·rw [ZiJ (Or.inr h2),ZiJ (Or.inr (by unfold negD; rw [if_pos h2]; exact h2))]; rfl
  ·have h3 : a.m * b.m≠0:=by have:=Nat.mul_pos (Nat.pos_of_ne_zero h1) (Nat.pos_of_ne_zero h2); omega
   have e1 : negD b = ⟨!b.n,b.m,b.e⟩:=by unfold negD; rw [if_neg h2]
   unfold mulD
   rw [e1]
   simp only
   have e2:=ZnU (n:=a.n != b.n) h3 (a.e + b.e)
   unfold negD
   rw [if_neg e2,Zar h3,Zar h3]
   cases a.n <;> cases b.n <;> rfl
theorem ZAa (F : Fm) {md : Int} {a b : Dy} (h0 : a.m≠0) (h1 : b.m≠0) (hf : (quoW F md a b).2 = 0∨(quoW F md a b).2 = 16) :
  ∃ (K N kk : Nat) (u : Int),F.fin (quoW F md a b).1∧(quoW F md a b).1 < 2 * F.sg∧F.val (quoW F md a b).1 = mkD (a.n != b.n) K u∧u + b.e = a.e - N + kk∧((quoW F md a b).2 = 16→u≤(a.e + blen a.m) - (b.e + blen b.m) + 1 - F.fr) ∧
   (a.m * 2 ^ N≤K * b.m * 2 ^ kk + b.m * 2 ^ kk)∧K * b.m * 2 ^ kk≤a.m * 2 ^ N + b.m * 2 ^ kk∧((quoW F md a b).2 = 0→a.m * 2 ^ N = K * b.m * 2 ^ kk):=by
 have hF:=ZaM F
 have hi:=ZcM F
 have hqb:=ZlF (k:=64) h0 h1
 unfold quoW at hf ⊢
 obtain ⟨N,hN⟩ : ∃ N,N = quoN 64 a.m b.m:=⟨_,rfl⟩
 rw [← hN] at hf hqb ⊢
 have hdm:=Nat.div_add_mod (a.m * 2 ^ N) b.m
 have hml:=Nat.mod_lt (a.m * 2 ^ N) (Nat.pos_of_ne_zero h1)
 have hbA : blen (a.m * 2 ^ N) = blen a.m + N:=Zap h0 N
 obtain ⟨A,hA⟩ : ∃ A,A = a.m * 2 ^ N:=⟨_,rfl⟩
 rw [← hA] at hdm hml hbA hqb hf ⊢
 obtain ⟨Q,hQ⟩ : ∃ Q,Q = A / b.m:=⟨_,rfl⟩
 rw [← hQ] at hdm hqb hf ⊢
 have hQb : blen Q + blen b.m≤blen A + 1:=by
  have q0 : Q≠0:=by rintro rfl; rw [Zal] at hqb; omega
  have e1:=Zbo q0
  have e2:=Zbo h1
  have e3:=Nat.mul_le_mul e2 e1
  rw [← Nat.pow_add] at e3
  have e4:=ZaH A
  have e5 : blen b.m - 1 + (blen Q - 1) < blen A:=by
   refine (Nat.pow_lt_pow_iff_right (a:=2) (by decide)).1 (Nat.lt_of_le_of_lt e3 (Nat.lt_of_le_of_lt ?_ e4))
   omega
  have:=ZaS h1
  omega
 obtain ⟨E,hE⟩ : ∃ E : Int,E = a.e - b.e - (N : Nat):=⟨_,rfl⟩
 rw [← hE] at hf ⊢
 unfold sW at hf ⊢
 obtain ⟨u,hu⟩ : ∃ u,u = F.eOf (E + blen Q):=⟨_,rfl⟩
 have hue : u = max (E + blen Q - F.fr - 1) F.low:=hu
 rw [← hu] at hf ⊢
 obtain ⟨kk,hkk⟩ : ∃ kk,kk = (u - E).toNat:=⟨_,rfl⟩
 rw [← hkk] at hf ⊢
 have k0 : 0 < kk:=by omega
 -- the count of units
 obtain ⟨lost,hlost⟩ : ∃ l,l = !decide (A % b.m = 0):=⟨_,rfl⟩
 rw [← hlost] at hf ⊢
 obtain ⟨up,hup⟩ : ∃ up : Bool,(rdN md (a.n != b.n) Q lost kk).1 = Q / 2 ^ kk + up.toNat∧((rdN md (a.n != b.n) Q lost kk).2 = true→up = false∧Q % 2 ^ kk = 0∧A % b.m = 0):=by
  refine ⟨_,rfl,fun h => ?_⟩
  simp only [rdN,Bool.and_eq_true,Bool.not_eq_true'] at h
  obtain ⟨q1,_,_⟩:=ZhK Q k0
  rw [h.1,h.2]
  refine ⟨ZCr _ _ _,?_,?_⟩
  ·have h2:=h.2
   simp only [moreN,Bool.or_eq_false_iff,decide_eq_false_iff_not,ne_eq,Decidable.not_not] at h2
   rw [q1,h.1,h2.2]; rfl
  ·have h2:=h.2
   simp only [moreN,Bool.or_eq_false_iff] at h2
   have h3:=h2.1
   rw [hlost] at h3
   simpa using h3
 have hbd : (rdN md (a.n != b.n) Q lost kk).1≤2 ^ (F.fr + 1):=by
  rw [hup.1]
  have hb1 : blen (Q / 2 ^ kk)≤F.fr + 1:=by rw [Zam]; omega
  have:=Zae.1 hb1
  cases up <;> simp <;> omega
 have hlo2 : u = F.low∨2 ^ F.fr≤(rdN md (a.n != b.n) Q lost kk).1:=by
  by_cases q : u = F.low
  ·exact Or.inl q
  ·right
   have : 2 ^ F.fr≤Q / 2 ^ kk:=ZaA.1 (by rw [Zam]; omega)
   rw [hup.1]; omega
 have hfine : blen (rdN md (a.n != b.n) Q lost (blen Q - F.fr - 1)).1≤F.fr + 2:=by
  have hb1 : blen (Q / 2 ^ (blen Q - F.fr - 1))≤F.fr + 1:=by rw [Zam]; omega
  have h2:=Zae.1 hb1
  have hb : ∀ b : Bool,b.toNat≤1:=fun b => by cases b <;> decide
  rw [Zae,show F.fr + 2 = (F.fr + 1) + 1 by omega,Nat.pow_succ]
  simp only [rdN]
  have:=hb (upB md (a.n != b.n) (decide (Q / 2 ^ (blen Q - F.fr - 1) % 2 = 1)) (halfN Q (blen Q - F.fr - 1)) (moreN Q lost (blen Q - F.fr - 1)))
  have h3:=Nat.two_pow_pos (F.fr + 1)
  omega
 generalize hK : (rdN md (a.n != b.n) Q lost kk).1 = K at *
 generalize (rdN md (a.n != b.n) Q lost (blen Q - F.fr - 1)).1 = fine at *
 generalize (rdN md (a.n != b.n) Q lost kk).2 = ex at *
 unfold wordOf at hf ⊢
 have hbig:=ZkF F (n:=K) (u:=u) hbd (by omega) hlo2
 by_cases ov : F.wide < blen K + u
 ·rw [if_pos ov] at hf; simp only at hf; omega
 ·rw [if_neg ov] at hf ⊢
  have hs : F.enc K u < F.i0:=by
   rcases Nat.lt_or_ge (F.enc K u) F.i0 with q | q
   ·exact q
   ·exact absurd (hbig.2 q) ov
  obtain ⟨v1,v2,v3⟩:=ZqW (F:=F) (a.n != b.n) hs
  rw [Zlv F hbd (by omega) hlo2] at v1
  have hval : F.val (F.enc K u + F.sgn (a.n != b.n)) = mkD (a.n != b.n) K u:=Zrl v3 (ZkY _ _ _) v2 (ZcU (by omega)) (by rw [v1,Zhr (by omega)])
  -- S
  have hS1 : Q * b.m = Q / 2 ^ kk * b.m * 2 ^ kk + Q % 2 ^ kk * b.m:=by
   have e:=Nat.div_add_mod Q (2 ^ kk)
   conv => lhs; rw [← e]
   rw [Nat.add_mul]
   congr 1
   rw [Nat.mul_assoc,Nat.mul_comm]
  have hS2 : Q % 2 ^ kk * b.m + A % b.m < b.m * 2 ^ kk:=by
   have e:=Nat.mod_lt Q (Nat.two_pow_pos kk)
   have:=Nat.mul_le_mul_left b.m (show Q % 2 ^ kk + 1≤2 ^ kk from e)
   rw [Nat.mul_add,Nat.mul_one,Nat.mul_comm b.m (Q % 2 ^ kk)] at this
   omega
  have hdm' : Q * b.m + A % b.m = A:=by rw [Nat.mul_comm]; exact hdm
  have hKb : K * b.m * 2 ^ kk = Q / 2 ^ kk * b.m * 2 ^ kk + up.toNat * (b.m * 2 ^ kk):=by rw [hup.1,Nat.add_mul,Nat.add_mul,Nat.mul_assoc up.toNat]
  refine ⟨K,N,kk,u,Zbw _ hs,by unfold Fm.sgn; split <;> omega,hval,by omega,?_,?_,?_,?_⟩
  ·intro hf
   simp only at hf
   have : ¬ ((blen fine : Int) + (E + blen Q - F.fr - 1) < F.low + F.fr + 1):=by
    intro q; rw [if_pos q] at hf; split at hf <;> omega
   omega
  ·rw [← hA,hKb]
   generalize Q / 2 ^ kk * b.m * 2 ^ kk = X at *
   generalize b.m * 2 ^ kk = Y at *
   cases up <;> simp <;> omega
  ·rw [← hA,hKb]
   generalize Q / 2 ^ kk * b.m * 2 ^ kk = X at *
   generalize b.m * 2 ^ kk = Y at *
   cases up <;> simp <;> omega
  ·intro h
   have hx : ex = true:=by
    cases ex
    ·simp only [Bool.false_eq_true,if_false] at h; split at h <;> simp at h
    ·rfl
   obtain ⟨x1,x2,x3⟩:=hup.2 hx
   rw [← hA,hKb,x1,← hdm',x3,hS1,x2]; simp
theorem units {K kk : Nat} {u E low L : Int} (h1 : u = E + kk) (h2 : L≤E) (h3 : low≤u) (h4 : L≤low) : K * 2 ^ (u - low).toNat * 2 ^ (low - L).toNat = K * 2 ^ kk * 2 ^ (E - L).toNat:=by
 rw [Nat.mul_assoc,← Nat.pow_add,Nat.mul_assoc,← Nat.pow_add]; congr 2; omega
theorem ZkT (x : Int) : 0≤x * x:=by
 rcases Int.le_total 0 x with h | h
 ·exact Int.mul_nonneg h h
 ·have:=Int.mul_nonneg (Int.neg_nonneg.2 h) (Int.neg_nonneg.2 h)
  rwa [Int.neg_mul_neg] at this
theorem ZHx {x y : Int} (hy : 0≤y) (h : x * x≤y * y) : x≤y:=by
 rcases Int.lt_or_le y x with q | q
 ·have:=Int.mul_lt_mul_of_pos_left q (show 0 < x by omega)
  have h2:=Int.mul_le_mul_of_nonneg_right (Int.le_of_lt q) hy
  omega
 ·exact q
def NB (x y n : Int) : Prop:=0≤n∧x * x + y * y≤n * n
theorem NB.mono {x y a b : Int} (h : NB x y a) (hab : a≤b) : NB x y b :=
 ⟨Int.le_trans h.1 hab,Int.le_trans h.2 (Int.mul_le_mul hab hab h.1 (Int.le_trans h.1 hab))⟩
theorem NB.add {x y z w a b : Int} (h : NB x y a) (k : NB z w b) : NB (x + z) (y + w) (a + b):=by
 obtain ⟨a0,h1⟩:=h
 obtain ⟨b0,k1⟩:=k
 refine ⟨by omega,?_⟩
 have e : (x * z + y * w) * (x * z + y * w)≤(a * b) * (a * b):=by
  have c1 : (x * z + y * w) * (x * z + y * w) + (x * w - y * z) * (x * w - y * z) = (x * x + y * y) * (z * z + w * w):=by grind
  have c2:=ZkT (x * w - y * z)
  have c3:=Int.mul_le_mul h1 k1 (by have:=ZkT z; have:=ZkT w; omega) (by have:=ZkT a; omega)
  have c4 : a * a * (b * b) = (a * b) * (a * b):=by grind
  omega
 have f:=ZHx (Int.mul_nonneg a0 b0) e
 have g : (x + z) * (x + z) + (y + w) * (y + w) = (x * x + y * y) + (z * z + w * w) + 2 * (x * z + y * w):=by grind
 have g2 : (a + b) * (a + b) = a * a + b * b + 2 * (a * b):=by grind
 omega
theorem NB.mul {x y z w a b : Int} (h : NB x y a) (k : NB z w b) : NB (x * z - y * w) (x * w + y * z) (a * b):=by
 obtain ⟨a0,h1⟩:=h
 obtain ⟨b0,k1⟩:=k
 refine ⟨Int.mul_nonneg a0 b0,?_⟩
 have c1 : (x * z - y * w) * (x * z - y * w) + (x * w + y * z) * (x * w + y * z) = (x * x + y * y) * (z * z + w * w):=by grind
 have c3:=Int.mul_le_mul h1 k1 (by have:=ZkT z; have:=ZkT w; omega) (by have:=ZkT a; omega)
 have c4 : a * a * (b * b) = (a * b) * (a * b):=by grind
 omega
theorem NB.scale {x y a k : Int} (h : NB x y a) (hk : 0≤k) : NB (k * x) (k * y) (k * a):=by
 refine ⟨Int.mul_nonneg hk h.1,?_⟩
 have e:=Int.mul_le_mul_of_nonneg_left h.2 (ZkT k)
 have e1 : k * k * (x * x + y * y) = k * x * (k * x) + k * y * (k * y):=by grind
 have e2 : k * k * (a * a) = k * a * (k * a):=by grind
 omega
theorem NB.parts {x y x' y' a : Int} (h : NB x' y' a) (hx : x.natAbs≤x'.natAbs) (hy : y.natAbs≤y'.natAbs) : NB x y a:=by
 refine ⟨h.1,Int.le_trans ?_ h.2⟩
 have s : ∀ u v : Int,u.natAbs≤v.natAbs→u * u≤v * v:=fun u v q => by
  have:=Nat.mul_le_mul q q
  rw [← Int.natAbs_mul_self,← Int.natAbs_mul_self (a:=v)]
  exact Int.ofNat_le.2 this
 have:=s x x' hx
 have:=s y y' hy
 omega
theorem Zzm (F : Fm) (md : Int) {a b : Nat} (fa : F.fin a) (fb : F.fin b) : absZ F md a b = rtW F md (sqD F a b):=by
 have ca:=ZaE.1 fa
 have cb:=ZaE.1 fb
 unfold absZ toldW zcl
 rw [if_neg (show ¬ (F.cls a = 4∨F.cls b = 4) by omega),if_neg (show ¬ (F.cls a = 5∨F.cls b = 5) by omega)]
 split <;> simp
theorem ZFu (F : Fm) {a b : Nat} {L : Int} (la : LoE (F.vl a) L) (lb : LoE (F.vl b) L) : iv (sqD F a b) (2 * L) = iv (F.vl a) L * iv (F.vl a) L + iv (F.vl b) L * iv (F.vl b) L:=by
 obtain ⟨p1,p2⟩:=Zgs la la
 obtain ⟨q1,q2⟩:=Zgs lb lb
 unfold sqD
 rw [show 2 * L = L + L by omega,(Zgr p2 q2).1,p1,q1]
def zrA (p q : Nat × Nat) : AV:=.agg [.int .u64 (p.1 : Int),.int .u64 (q.1 : Int),.int .u8 (p.2 : Int),.int .u8 (q.2 : Int)]
def numA (z : Bool) (x : Dy × Bool) : AV:=.agg [.bool x.1.n,D z (dl x.1.m),.int .i64 x.1.e,.bool x.2]
def tm (F : Fm) (a b : Nat) (minus : Bool) : Dy × Bool:=(if minus then negD (mulD (F.vl a) (F.vl b)) else mulD (F.vl a) (F.vl b),(F.ng a != F.ng b) != minus)
def zsg (md : Int) (x y : Dy × Bool) : Bool:=if x.1.m = 0∧y.1.m = 0∧x.2 = y.2 then x.2 else decide (md = 5)
def ptQ (F : Fm) (md : Int) (d : Dy) (n : Bool) (by' : Dy) : Nat × Nat:=if d.m = 0 then (F.sgn n,0) else quoW F md d by'
theorem Zfp (F : Fm) (a b : Nat) : Bd (mulD (F.vl a) (F.vl b)) 2400:=by
 have hF:=ZaM F
 by_cases h1 : (F.vl a).m = 0
 ·rw [ZiJ (Or.inl h1)]; exact ⟨by simp only [Zal]; omega,by simp,by simp⟩
 ·by_cases h2 : (F.vl b).m = 0
  ·rw [ZiJ (Or.inr h2)]; exact ⟨by simp only [Zal]; omega,by simp,by simp⟩
  ·have fa : F.fin a:=by
    by_cases h : F.fin a
    ·exact h
    ·exfalso; apply h1; unfold Fm.vl; rw [if_neg h]
   have fb : F.fin b:=by
    by_cases h : F.fin b
    ·exact h
    ·exfalso; apply h2; unfold Fm.vl; rw [if_neg h]
   have e1:=Zlq F fa (by rw [← ZcV fa]; exact h1)
   have e2:=Zlq F fb (by rw [← ZcV fb]; exact h2)
   rw [← ZcV fa] at e1
   rw [← ZcV fb] at e2
   obtain ⟨_,a1,a2,a3⟩:=e1
   obtain ⟨_,b1,b2,b3⟩:=e2
   have hb:=Zww a1 b1
   rw [ZFQ (Zfw F a) (Zfw F b) h1 h2]
   exact ⟨by simp only; omega,by simp only; omega,by simp only; omega⟩
theorem ZoF (F : Fm) (a b : Nat) (s : Bool) : Bd (tm F a b s).1 2400∧Nz (tm F a b s).1:=by
 unfold tm; cases s
 ·exact ⟨Zfp F a b,Zcj _ _⟩
 ·exact ⟨(Zfp F a b).neg,ZoL (Zcj _ _)⟩
theorem ZiF (J : Al G T g) (F : Fm) {w : Nat} (hw : w < 2 * F.sg) :
  ∃ z,run G T 296 [.int .u8 F.u,.int .u64 (w : Int)] = some (numA z (F.vl w,F.ng w)):=by
 apply exP
 rw [Zac G T J.J.ZiF]
 obtain ⟨z,k,h1⟩:=ZeE J F hw
 have h2:=ZeD J F hw
 generalize F.vl w = v at *
 generalize F.ng w = n at *
 simp only [fldA,DyA,A3,numA] at *
 repeat' (first|simp (maxSteps:=9^7) only [seval,exC,Zfy,h1,h2]|simp (maxSteps:=9^7) (disch:=first|with_reducible assumption|omega) only [dxB]|(simp only [kdB];split)|(simp only [kvB];split))
 all_goals exact ⟨_,rfl,z,rfl⟩
theorem Zbg (J : Al G T g) {z y n k : Bool} {a b : Dy} (na : Nz a) (nb : Nz b) (ha : Bd a 16384) (hb : Bd b 16384) :
  ∃ z',run G T 278 [numA z (a,n),numA y (b,k)] = some (numA z' (mulD a b,n != k)):=by
 apply exP
 rw [Zac G T J.J.Zbg]
 obtain ⟨z',h1⟩:=Zll J (z:=z) (y:=y) ha hb (ZbL na (ha.mono (by decide))) (ZbL nb (hb.mono (by decide)))
 generalize mulD a b = d at *
 have hne : (n != k) = !decide (n = k):=by cases n <;> cases k <;> rfl
 rw [hne]
 simp only [DyA,A3,numA] at *
 repeat' (first|simp (maxSteps:=9^7) only [seval,exC,ZcC,h1]|simp (maxSteps:=9^7) (disch:=first|with_reducible assumption|omega) only [dxB]|(simp only [kdB];split)|(simp only [kvB];split))
 all_goals exact ⟨_,rfl,z',rfl⟩
theorem Zea (J : Al G T g) {z n : Bool} {a : Dy} (na : Nz a) (ha : Bd a 131072) :
  ∃ z',run G T 279 [numA z (a,n)] = some (numA z' (negD a,!n)):=by
 apply exP
 rw [Zac G T J.J.Zea]
 obtain ⟨z',h1⟩:=Zpy J (z:=z) (d:=a) (ZbL na ha)
 generalize negD a = d at *
 simp only [DyA,A3,numA] at *
 repeat' (first|simp (maxSteps:=9^7) only [seval,exC,ZcB,h1]|simp (maxSteps:=9^7) (disch:=first|with_reducible assumption|omega) only [dxB]|(simp only [kdB];split)|(simp only [kvB];split))
 all_goals exact ⟨_,rfl,z',rfl⟩
theorem ZeV (J : Al G T g) {z y n k : Bool} {a b : Dy} {md : Int} (na : Nz a) (nb : Nz b) (ha : Bd a 16384) (hb : Bd b 16384) :
  ∃ z' s,run G T 295 [numA z (a,n),numA y (b,k),.int .u8 md] = some (numA z' (addD a b,s))∧((addD a b).m = 0→s = zsg md (a,n) (b,k)):=by
 rw [Zac G T J.J.ZeV]
 obtain ⟨z',h1⟩:=Zlk J (z:=z) (y:=y) ha hb (ZbL na (ha.mono (by decide))) (ZbL nb (hb.mono (by decide)))
 have md':=ZbL (Zht na nb) ((ZkW ha hb).mono (by decide))
 have ma':=ZbL na (ha.mono (by decide))
 have s1:=ZdZ J (n:=(addD a b).n) (z:=z') (ZaC (addD a b).m) (e:=(addD a b).e)
 rw [ZiT md'] at s1
 have s2:=ZdZ J (n:=a.n) (z:=z) (ZaC a.m) (e:=a.e)
 rw [ZiT ma'] at s2
 have hz : (addD a b).m = 0→a.m = 0→b.m = 0:=by intro h ha0; unfold addD at h; rw [if_pos ha0] at h; exact h
 unfold zsg
 generalize addD a b = d at *
 clear md' ma' na nb ha hb
 obtain ⟨an,am,ae⟩:=a
 obtain ⟨dn,dm,de⟩:=d
 simp only [DyA,A3,numA] at *
 by_cases d0 : dm = 0
 ·rw [if_pos d0] at s1
  by_cases a0 : am = 0
  ·rw [if_pos a0] at s2
   have b0:=hz d0 a0
   by_cases e : n = k
   ·refine ⟨z',n,?_,fun _ => by rw [if_pos ⟨a0,b0,e⟩]⟩
    subst e
    repeat' (first|simp (maxSteps:=9^7) only [seval,exC,Zbm,h1,s1,s2]|simp (maxSteps:=9^7) (disch:=first|with_reducible assumption|omega) only [dxB]|(simp only [kdB];split)|(simp only [kvB];split))
   ·refine ⟨z',decide (md = 5),?_,fun _ => by rw [if_neg (fun h => e h.2.2)]⟩
    repeat' (first|simp (maxSteps:=9^7) only [seval,exC,Zbm,h1,s1,s2,e]|simp (maxSteps:=9^7) (disch:=first|with_reducible assumption|omega) only [dxB]|(simp only [kdB];split)|(simp only [kvB];split))
  ·rw [if_neg a0] at s2
   refine ⟨z',decide (md = 5),?_,fun _ => by rw [if_neg (fun h => a0 h.1)]⟩
   cases an <;> (simp only [Bool.false_eq_true,if_false,if_true] at s2; repeat' (first|simp (maxSteps:=9^7) only [seval,exC,Zbm,h1,s1,s2]|simp (maxSteps:=9^7) (disch:=first|with_reducible assumption|omega) only [dxB]|(simp only [kdB];split)|(simp only [kvB];split)))
 ·rw [if_neg d0] at s1
  refine ⟨z',dn,?_,fun h => absurd h d0⟩
  cases dn <;> (simp only [Bool.false_eq_true,if_false,if_true] at s1; repeat' (first|simp (maxSteps:=9^7) only [seval,exC,Zbm,h1,s1]|simp (maxSteps:=9^7) (disch:=first|with_reducible assumption|omega) only [dxB]|(simp only [kdB];split)|(simp only [kvB];split)))
def gaussA (z y : Bool) (p q : Dy × Bool) : AV:=.agg [.bool p.1.n,D z (dl p.1.m),.int .i64 p.1.e,.bool p.2,.bool q.1.n,D y (dl q.1.m),.int .i64 q.1.e,.bool q.2]
def workA (F : Fm) (md : Int) : AV:=.agg [.int .u8 F.u,.int .u8 md]
def oneD : Dy:=⟨false,1,0⟩
theorem ZcL (J : Al G T g) (F : Fm) {a b : Nat} (ha : a < 2 * F.sg) (hb : b < 2 * F.sg) :
  ∃ z y,run G T 271 [.int .u8 F.u,zA a b] = some (gaussA z y (F.vl a,F.ng a) (F.vl b,F.ng b)):=by
 rw [Zac G T J.J.ZcL]
 obtain ⟨z,h1⟩:=ZiF J F ha
 obtain ⟨y,h2⟩:=ZiF J F hb
 refine ⟨z,y,?_⟩
 generalize F.vl a = v at *
 generalize F.ng a = n at *
 generalize F.vl b = w at *
 generalize F.ng b = k at *
 simp only [zA,gaussA,numA] at *
 repeat' (first|simp (maxSteps:=9^7) only [seval,exC,ZdI,h1,h2]|simp (maxSteps:=9^7) (disch:=first|with_reducible assumption|omega) only [dxB]|(simp only [kdB];split)|(simp only [kvB];split))
theorem Zdm (J : Al G T g) (F : Fm) {md : Int} {z1 z2 y1 y2 n1 n2 k1 k2 : Bool} {a b c d : Dy} (na : Nz a) (nb : Nz b) (nc : Nz c) (nd : Nz d) (ha : Bd a 4096) (hb : Bd b 4096) (hc : Bd c 4096) (hd : Bd d 4096) :
  ∃ z y s t,run G T 270 [workA F md,gaussA z1 z2 (a,n1) (b,n2),gaussA y1 y2 (c,k1) (d,k2)] = some (gaussA z y (addD (mulD a c) (negD (mulD b d)),s) (addD (mulD a d) (mulD b c),t)) ∧
   ((addD (mulD a c) (negD (mulD b d))).m = 0→s = zsg md (mulD a c,n1 != k1) (negD (mulD b d),!(n2 != k2)))∧((addD (mulD a d) (mulD b c)).m = 0→t = zsg md (mulD a d,n1 != k2) (mulD b c,n2 != k1)):=by
 rw [Zac G T J.J.Zdm]
 obtain ⟨u1,h1⟩:=Zbg J (z:=z1) (y:=y1) (n:=n1) (k:=k1) na nc (ha.mono (by decide)) (hc.mono (by decide))
 obtain ⟨u2,h2⟩:=Zbg J (z:=z2) (y:=y2) (n:=n2) (k:=k2) nb nd (hb.mono (by decide)) (hd.mono (by decide))
 obtain ⟨u3,h3⟩:=Zea J (z:=u2) (n:=n2 != k2) (Zcj b d) ((Zja hb hd).mono (by decide))
 obtain ⟨u4,s,h4,e4⟩:=ZeV J (z:=u1) (y:=u3) (n:=n1 != k1) (k:=!(n2 != k2)) (md:=md) (Zcj a c) (ZoL (Zcj b d)) (Zja ha hc) (Zja hb hd).neg
 obtain ⟨u5,h5⟩:=Zbg J (z:=z1) (y:=y2) (n:=n1) (k:=k2) na nd (ha.mono (by decide)) (hd.mono (by decide))
 obtain ⟨u6,h6⟩:=Zbg J (z:=z2) (y:=y1) (n:=n2) (k:=k1) nb nc (hb.mono (by decide)) (hc.mono (by decide))
 obtain ⟨u7,t,h7,e7⟩:=ZeV J (z:=u5) (y:=u6) (n:=n1 != k2) (k:=n2 != k1) (md:=md) (Zcj a d) (Zcj b c) (Zja ha hd) (Zja hb hc)
 refine ⟨u4,u7,s,t,?_,e4,e7⟩
 clear e4 e7 ha hb hc hd na nb nc nd
 generalize addD (mulD a c) (negD (mulD b d)) = X at *
 generalize addD (mulD a d) (mulD b c) = Y at *
 generalize negD (mulD b d) = e at *
 generalize mulD a c = m1 at *
 generalize mulD b d = m2 at *
 generalize mulD a d = m3 at *
 generalize mulD b c = m4 at *
 generalize (!(n2 != k2)) = q0 at *
 generalize (n1 != k1) = q1 at *
 generalize (n2 != k2) = q2 at *
 generalize (n1 != k2) = q3 at *
 generalize (n2 != k1) = q4 at *
 simp only [gaussA,workA,numA] at *
 repeat' (first|simp (maxSteps:=9^7) only [seval,exC,Zck,h1,h2,h3,h4,h5,h6,h7]|simp (maxSteps:=9^7) (disch:=first|with_reducible assumption|omega) only [dxB]|(simp only [kdB];split)|(simp only [kvB];split))
theorem Zec (J : Al G T g) (F : Fm) {md : Int} (hm : 1≤md∧md≤5) {z y s : Bool} {d b : Dy} (nd : Nz d) (nb : Nz b) (hd : Bd d 65537) (hb : Bd b 65537) (b0 : b.m≠0) :
  run G T 294 [workA F md,numA z (d,s),DyA y b] = some (.tup [.int .u64 ((ptQ F md d s b).1 : Int),.int .u8 ((ptQ F md d s b).2 : Int)]):=by
 rw [Zac G T J.J.Zec]
 have ma:=ZbL nd (hd.mono (by decide))
 have s1:=ZdZ J (n:=d.n) (z:=z) (ZaC d.m) (e:=d.e)
 rw [ZiT ma] at s1
 unfold ptQ
 by_cases d0 : d.m = 0
 ·rw [if_pos d0] at s1 ⊢
  have w1:=Zme J F (n:=s)
  generalize F.sgn s = S at *
  simp only [workA,numA,DyA,A3,cast0] at *
  repeat' (first|simp (maxSteps:=9^7) only [seval,exC,ZbO,s1,w1]|simp (maxSteps:=9^7) (disch:=first|with_reducible assumption|omega) only [dxB]|(simp only [kdB];split)|(simp only [kvB];split))
 ·rw [if_neg d0] at s1 ⊢
  have hbl:=hd.bl
  have hbb:=hb.bl
  have r1:=Zor J F hm (z:=z) (y:=y) ma (ZbL nb (hb.mono (by decide))) d0 b0 (by unfold quoN; omega)
  generalize quoW F md d b = S at *
  obtain ⟨n,m,e⟩:=d
  simp only [workA,numA,DyA,A3] at *
  cases n <;> (simp only [Bool.false_eq_true,if_false,if_true] at s1; repeat' (first|simp (maxSteps:=9^7) only [seval,exC,ZbO,s1,r1]|simp (maxSteps:=9^7) (disch:=first|with_reducible assumption|omega) only [dxB]|(simp only [kdB];split)|(simp only [kvB];split)))
theorem Zeb (J : Al G T g) (F : Fm) {md : Int} (hm : 1≤md∧md≤5) {z z' y s t : Bool} {d e b : Dy} (nd : Nz d) (ne : Nz e) (nb : Nz b) (hd : Bd d 65537) (he : Bd e 65537) (hb : Bd b 65537) (b0 : b.m≠0) :
  run G T 269 [workA F md,gaussA z z' (d,s) (e,t),DyA y b] = some (zrA (ptQ F md d s b) (ptQ F md e t b)):=by
 rw [Zac G T J.J.Zeb]
 have h1:=Zec J F hm (z:=z) (y:=y) (s:=s) nd nb hd hb b0
 have h2:=Zec J F hm (z:=z') (y:=y) (s:=t) ne nb he hb b0
 generalize ptQ F md d s b = S1 at *
 generalize ptQ F md e t b = S2 at *
 simp only [workA,numA,gaussA,zrA,DyA,A3] at *
 repeat' (first|simp (maxSteps:=9^7) only [seval,exC,ZcD,h1,h2]|simp (maxSteps:=9^7) (disch:=first|with_reducible assumption|omega) only [dxB]|(simp only [kdB];split)|(simp only [kvB];split))
theorem ZwN (J : Al G T g) : ∃ z,run G T 272 [.int .i64 1] = some (DyA z oneD):=by
 apply exP
 rw [Zac G T J.J.Zpx]
 obtain ⟨z1,h1⟩:=ZnZ J (n:=1) (by decide)
 obtain ⟨z2,h2⟩:=ZbQ J (n:=false) (z:=z1) (a:=1) (e:=0) (Zau (by decide)) (Or.inr (by rw [ZrQ (by decide)]; omega)) (by omega)
 rw [show mkD false 1 0 = oneD from ZpS (by decide)] at h2
 have w1 : IntKind.u64.wrap 1 = 1:=rfl
 rw [show ((1 : Nat) : Int) = 1 from rfl] at h1
 generalize oneD = d at *
 simp only [DyA,A3] at *
 repeat' (first|simp (maxSteps:=9^7) only [seval,exC,Zhx,w1,h1,h2]|simp (maxSteps:=9^7) (disch:=first|with_reducible assumption|omega) only [dxB]|(simp only [kdB];split)|(simp only [kvB];split))
 all_goals exact ⟨_,rfl,z2,rfl⟩
noncomputable def kV2 (G : Nat→Option (List AV)) (T : Tbl) (f : AV) (args : List AV) (d : Option Nat) (os : List IOper) (e : Env) (h : Heap) : Option (Env × Heap) :=
 kW G (CF G T) (match f with
  | .fn k cap => (T k).bind fun fn => kJ G fn.res (evL G T fn.body (numE 0 (args ++ cap)) h)
  | _ => none) d os e
theorem ZAk (t : Nat) (args : List IOpd) (d : Option Nat) (os : List IOper) (e : Env) (h : Heap) :
  evOps G (CF G T) (⟨d,.call true (.t t) args,none⟩ :: os) e h = kV2 G T (opd e (.t t)) (args.map (opd e)) d os e h:=by
 rw [ZuE]
 unfold kV2
 refine congrArg (fun o => kW G (CF G T) o d os e) ?_
 simp only [evW]
 cases opd e (.t t) <;> try rfl
 rename_i k cap
 simp only [ZvK]
 cases T k with
 | none => rfl
 | some fn =>
  simp only [Option.bind_some]
  cases evL G T fn.body (numE 0 (args.map (opd e) ++ cap)) h with
  | none => rfl
  | some r => obtain ⟨x,e,h⟩:=r; cases x <;> rfl
theorem ZFE {k : Nat} {fn : IFn} (hf : T k = some fn) (cap args : List AV) (d : Option Nat) (os : List IOper) (e : Env) (h : Heap) :
  kV2 G T (.fn k cap) args d os e h = kW G (CF G T) (kJ G fn.res (evL G T fn.body (numE 0 (args ++ cap)) h)) d os e:=by
 unfold kV2; simp only [hf,Option.bind_some]
theorem Zzc {k w : Nat} (h : w < 2 ^ k) : w ^^^ 2 ^ k = 2 ^ k + w:=by
 apply Nat.eq_of_testBit_eq
 intro j
 rw [Nat.testBit_xor]
 rcases Nat.lt_trichotomy j k with q | q | q
 ·rw [Nat.testBit_two_pow_of_ne (by omega),Nat.testBit_two_pow_add_gt q,Bool.xor_false]
 ·subst q
  rw [Nat.testBit_two_pow_self,Nat.testBit_two_pow_add_eq,Nat.testBit_lt_two_pow h]; rfl
 ·have h2:=Nat.pow_le_pow_right (n:=2) (by decide) (show k + 1≤j from q)
  rw [Nat.pow_succ] at h2
  rw [Nat.testBit_two_pow_of_ne (by omega),Nat.testBit_lt_two_pow (by omega),Nat.testBit_lt_two_pow (by omega)]; rfl
theorem ZGR (F : Fm) {w : Nat} (hw : w < 2 * F.sg) : w ^^^ F.sg = F.flip w:=by
 obtain ⟨k,hk⟩ : ∃ k,F.sg = 2 ^ k:=by cases F; exact ⟨31,rfl⟩; exact ⟨63,rfl⟩
 unfold Fm.flip Fm.ng Fm.sgn
 rw [hk] at hw ⊢
 have hp:=Nat.two_pow_pos k
 by_cases h : 2 ^ k≤w
 ·rw [decide_eq_true h,Bool.not_true,if_neg (by decide),Nat.mod_eq_sub_mod h,Nat.mod_eq_of_lt (by omega),Nat.add_zero]
  have e:=Zzc (k:=k) (w:=w - 2 ^ k) (by omega)
  rw [show 2 ^ k + (w - 2 ^ k) = w by omega] at e
  rw [← e,Nat.xor_assoc,Nat.xor_self,Nat.xor_zero]
  rw [e]
 ·rw [decide_eq_false h,Bool.not_false,if_pos rfl,Nat.mod_eq_of_lt (by omega),Zzc (by omega),Nat.add_comm]
theorem xor64 {a b : Nat} (ha : a < 18446744073709551616) (hb : b < 18446744073709551616) : xorI .u64 (a : Int) (b : Int) = ((a ^^^ b : Nat) : Int):=by
 have : a ^^^ b < 2 ^ 64:=Nat.xor_lt_two_pow (n:=64) ha hb
 rw [ZqA]
 show IntKind.u64.wrap ((BitVec.ofInt 64 a ^^^ BitVec.ofInt 64 b).toNat : Int) = _
 simp only [BitVec.toNat_xor,BitVec.toNat_ofInt,Zbx]
 have e1 : ((a : Int) % (2 ^ 64 : Nat)).toNat = a:=by omega
 have e2 : ((b : Int) % (2 ^ 64 : Nat)).toNat = b:=by omega
 rw [e1,e2]; omega
theorem Znc (J : Al G T g) (F : Fm) {w : Nat} (hw : w < 2 * F.sg) : run G T 310 [.int .u8 F.u,.int .u64 (w : Int)] = some (.tup [.int .u64 (F.min w : Int),.int .i64 0]):=by
 rw [Zac G T J.J.Znc]
 have h1:=ZhW J F (ZbS hw)
 rw [if_pos hw] at h1
 have h2:=ZmA J F hw
 have h3:=ZrS J F
 have x1:=xor64 (a:=w) (b:=F.sg) (ZbS hw) (by cases F <;> decide)
 rw [ZGR F hw] at x1
 have kv:=fun cap args d os e h => ZFE (G:=G) (T:=T) J.J.word_Neg_1 cap args d os e h
 have kt:=fun d args os e h => Zaw (G:=G) (T:=T) J.J.word_turned d args os e h
 unfold Fm.min
 by_cases h5 : F.cls w = 5
 ·rw [if_pos h5]
  rw [h5] at h2
  simp only [shA] at *
  repeat' (first|simp (maxSteps:=9^7) only [seval,exC,ZhE,kt,ZdX,h1,h2,h3]|simp (maxSteps:=9^7) (disch:=first|with_reducible assumption|omega) only [dxB]|(simp only [kdB];split)|(simp only [kvB];split))
 ·rw [if_neg h5]
  generalize F.cls w = c at *
  simp only [shA] at *
  repeat' (first|simp (maxSteps:=9^7) only [seval,exC,ZhE,kt,ZdX,h1,h2,h5,ZAk,kv,ZgW,Zxq,x1]|simp (maxSteps:=9^7) (disch:=first|with_reducible assumption|omega) only [dxB]|(simp only [kdB];split)|(simp only [kvB];split))
def sd (F : Fm) (w : Nat) (inf : Bool) : Int × Bool :=
 if F.cls w = 5 then (0,false) else if (if inf then F.cls w = 4 else F.cls w≠1) then (if F.ng w then (-1,true) else (1,false)) else (0,F.ng w)
def sT (a b : Int × Bool) : Int × Bool:=(a.1 * b.1,a.2 != b.2)
def sM (a : Int × Bool) : Int × Bool:=(-a.1,!a.2)
def sP (md : Int) (a b : Int × Bool) : Int × Bool:=if a.1 + b.1≠0 then (a.1 + b.1,decide (a.1 + b.1 < 0)) else if a.1 = 0∧a.2 = b.2 then a else (0,decide (md = 5))
def SdC (p : Int × Bool) : Prop:=p = (-1,true)∨p = (1,false)∨p = (0,true)∨p = (0,false)
theorem sd_c (F : Fm) (w : Nat) (inf : Bool) : SdC (sd F w inf):=by
 unfold sd SdC
 by_cases h : F.cls w = 5
 ·rw [if_pos h]; simp
 ·rw [if_neg h]
  by_cases k : (if inf then F.cls w = 4 else F.cls w≠1)
  ·rw [if_pos k]; cases F.ng w <;> simp
  ·rw [if_neg k]; cases F.ng w <;> simp
theorem sT_c {a b : Int × Bool} (ha : SdC a) (hb : SdC b) : SdC (sT a b):=by
 rcases ha with rfl | rfl | rfl | rfl <;> rcases hb with rfl | rfl | rfl | rfl <;> simp [SdC,sT]
theorem sM_c {a : Int × Bool} (ha : SdC a) : SdC (sM a):=by
 rcases ha with rfl | rfl | rfl | rfl <;> simp [SdC,sM]
def bxT (md : Int) (p q r s : Int × Bool) : (Int × Bool) × (Int × Bool):=(sP md (sT p r) (sM (sT q s)),sP md (sT p s) (sT q r))
def Fm.one (F : Fm) : Nat:=F.most / 2 * 2 ^ F.fr
theorem ZjO (F : Fm) (n : Bool) : F.sgn n < 2 * F.sg∧F.ng (F.sgn n) = n∧F.cls (F.sgn n) = 1∧F.vl (F.sgn n) = ⟨false,0,0⟩:=by
 have hi:=ZcM F
 obtain ⟨g1,g2,g3⟩:=ZjP F n
 have h2:=(Zdt (F:=F) (s:=0) n (by omega)).2
 rw [Nat.zero_add] at h2
 exact ⟨g1,h2,by rw [Zke g1 g2,g3],g3⟩
end Go.Cv
