/-
 A part of the proof of the statements of this seat (texts that the law's own text leans on): no condition.
-/
import Derived.Test.YtddmoldiopnifaaGreatDoorM13
import Derived.Test.YtddmoldiopnifaaGreatDoorM7
import Derived.Test.YtddmoldiopnifaaGreatDoorM11
set_option linter.unusedVariables false
set_option linter.unusedSimpArgs false
namespace Go.Cv
variable {G : Nat→Option (List AV)} {T : Tbl} {g : Nat}
theorem ZzS {w k : Nat} (hk : k < 64) (hw : w < 2 ^ (k + 1)) : w &&& (2 ^ 64 - (2 ^ k + 1)) = w % 2 ^ k:=by
 apply Nat.eq_of_testBit_eq
 intro i
 have hp : (2 : Nat) ^ k < 2 ^ 64:=Nat.pow_lt_pow_right (by decide) hk
 rw [Nat.testBit_and,Nat.testBit_mod_two_pow,Nat.testBit_two_pow_sub_succ hp,Nat.testBit_two_pow]
 by_cases h1 : i < k
 ·rw [decide_eq_true h1,decide_eq_true (show i < 64 by omega),decide_eq_false (show ¬ k = i by omega)]; simp
 ·rw [decide_eq_false h1]
  by_cases h2 : i = k
  ·rw [decide_eq_true h2.symm]; simp
  ·have : w.testBit i = false:=Nat.testBit_lt_two_pow (Nat.lt_of_lt_of_le hw (Nat.pow_le_pow_right (by decide) (by omega)))
   rw [this]; simp
theorem andn64 {w k : Nat} (hk : k < 64) (hw : w < 2 ^ (k + 1)) : andNotI .u64 (w : Int) ((2 ^ k : Nat) : Int) = ((w % 2 ^ k : Nat) : Int):=by
 have hp : (2 : Nat) ^ k < 2 ^ 64:=Nat.pow_lt_pow_right (by decide) hk
 have hw2 : w < 2 ^ 64:=Nat.lt_of_lt_of_le hw (Nat.pow_le_pow_right (by decide) (by omega))
 have hlt : w % 2 ^ k < 2 ^ k:=Nat.mod_lt _ (Nat.two_pow_pos k)
 rw [ZpA]
 show IntKind.u64.wrap ((BitVec.ofInt 64 (w : Int) &&& ~~~BitVec.ofInt 64 ((2 ^ k : Nat) : Int)).toNat : Int) = _
 rw [show BitVec.ofInt 64 (w : Int) = BitVec.ofNat 64 w from rfl,show BitVec.ofInt 64 ((2 ^ k : Nat) : Int) = BitVec.ofNat 64 (2 ^ k) from rfl,BitVec.toNat_and,BitVec.toNat_not,BitVec.toNat_ofNat,BitVec.toNat_ofNat,Nat.mod_eq_of_lt hw2,Nat.mod_eq_of_lt hp,
  show 2 ^ 64 - 1 - 2 ^ k = 2 ^ 64 - (2 ^ k + 1) by omega,ZzS hk hw,Zdz]
 omega
theorem ZBk {w : Nat} (h : w < 4294967296) : andNotI .u64 (w : Int) 2147483648 = ((w % 2147483648 : Nat) : Int):=andn64 (k:=31) (by decide) h
theorem ZBj {w : Nat} (h : w < 18446744073709551616) : andNotI .u64 (w : Int) 9223372036854775808 = ((w % 9223372036854775808 : Nat) : Int):=andn64 (k:=63) (by decide) h
theorem ZvT {w k : Nat} (hw : w < 2 ^ k) : w &&& 2 ^ k = 0:=by
 apply Nat.eq_of_testBit_eq
 intro i
 rw [Nat.testBit_and,Nat.testBit_two_pow,Nat.zero_testBit]
 by_cases h : k = i
 ·subst h; rw [Nat.testBit_lt_two_pow hw]; rfl
 ·rw [decide_eq_false h,Bool.and_false]
theorem ZvS {w k : Nat} (h1 : 2 ^ k≤w) (hw : w < 2 ^ (k + 1)) : w &&& 2 ^ k = 2 ^ k:=by
 apply Nat.eq_of_testBit_eq
 intro i
 rw [Nat.testBit_and,Nat.testBit_two_pow]
 rw [Nat.pow_succ] at hw
 by_cases h : k = i
 ·subst h
  have : w / 2 ^ k = 1:=Nat.div_eq_of_lt_le (by omega) (by omega)
  rw [Nat.testBit_eq_decide_div_mod_eq,this]; rfl
 ·rw [decide_eq_false h,Bool.and_false]
theorem ZwM {w k : Nat} (hk : k < 64) (hw : w < 2 ^ (k + 1)) : andI .u64 (w : Int) ((2 ^ k : Nat) : Int) = if 2 ^ k≤w then ((2 ^ k : Nat) : Int) else 0:=by
 have hp : (2 : Nat) ^ k < 2 ^ 64:=Nat.pow_lt_pow_right (by decide) hk
 have hw2 : w < 2 ^ 64:=Nat.lt_of_lt_of_le hw (Nat.pow_le_pow_right (by decide) (by omega))
 rw [and64 (by omega) (by omega)]
 by_cases h : 2 ^ k≤w
 ·rw [if_pos h,ZvS h hw]
 ·rw [if_neg h,ZvT (by omega)]; rfl
theorem ZHn {w : Nat} (h : w < 4294967296) : andI .u64 (w : Int) 2147483648 = if 2147483648≤w then 2147483648 else 0:=ZwM (k:=31) (by decide) h
theorem ZHm {w : Nat} (h : w < 18446744073709551616) : andI .u64 (w : Int) 9223372036854775808 = if 9223372036854775808≤w then 9223372036854775808 else 0:=ZwM (k:=63) (by decide) h
theorem ZER {w : Nat} (h : w < 18446744073709551616) : andI .u64 (w : Int) 8388607 = ((w % 8388608 : Nat) : Int):=Zqg (j:=23) h (by decide)
theorem ZEQ {w : Nat} (h : w < 18446744073709551616) : andI .u64 (w : Int) 4503599627370495 = ((w % 4503599627370496 : Nat) : Int):=Zqg (j:=52) h (by decide)
theorem or_s : orI .u64 2147483648 2147483647 = 4294967295:=by rw [ZoP]; rfl
theorem or_d : orI .u64 9223372036854775808 9223372036854775807 = 18446744073709551615:=by rw [ZoP]; rfl
theorem ZHH : orI .u64 2139095040 4194304 = 2143289344:=by rw [ZoP]; rfl
theorem ZHG : orI .u64 9218868437227405312 2251799813685248 = 9221120237041090560:=by rw [ZoP]; rfl
theorem Zrg (e : Env) (h : Heap) : evL G T Zcp e h = kS G T (evL G T ZbI (keepE [4,6,18,19,20] e) h) Zcp:=Zad G T rfl e h
theorem ia11 (x : AV) (k : IntKind) : iaddrV 1 (.imm 1 [x]) (.int k 0) = some (.iptr [x] 0):=rfl
theorem rd11 (h : Mem) (x : AV) : rdAt G h 1 (.iptr [x] 0) = some [x]:=rfl
theorem ZiJ (J : Al G T g) (F : Fm) {w : Nat} (hw : w < 18446744073709551616) : run G T 95 [.int .u8 F.u,.imm 1 [.int .u64 (w : Int)]] = some (.tup [shA F,.int .i64 (if w < 2 * F.sg then 0 else 6)]):=by
 rw [Zab G T J.D.word_open]
 have h1:=ZhP (G:=G) J F
 have wr : IntKind.i64.wrap 1 = 1:=rfl
 by_cases hk : w < 2 * F.sg
 ·rw [if_pos hk]
  cases F
  ·simp only [shA,Fm.u,Fm.fr,Fm.sg,Fm.most,Int.cast_ofNat_Int,Nat.reduceMul] at *
   have c1 : ¬ (4294967295 : Int) < (w : Int):=by omega
   repeat' (first|simp (maxSteps:=9^7) only [seval,exC,ZdE,h1,Zrg,ZbI,ia11,rd11,or_s,or_d,c1,wr]|simp (maxSteps:=9^7) (disch:=first|with_reducible assumption|omega) only [dxB]|(simp only [kdB];split)|(simp only [kvB];split))
  ·simp only [shA,Fm.u,Fm.fr,Fm.sg,Fm.most,Int.cast_ofNat_Int,Nat.reduceMul] at *
   have c1 : ¬ (18446744073709551615 : Int) < (w : Int):=by omega
   repeat' (first|simp (maxSteps:=9^7) only [seval,exC,ZdE,h1,Zrg,ZbI,ia11,rd11,or_s,or_d,c1,wr]|simp (maxSteps:=9^7) (disch:=first|with_reducible assumption|omega) only [dxB]|(simp only [kdB];split)|(simp only [kvB];split))
 ·rw [if_neg hk]
  cases F
  ·simp only [shA,Fm.u,Fm.fr,Fm.sg,Fm.most,Int.cast_ofNat_Int,Nat.reduceMul] at *
   have c1 : (4294967295 : Int) < (w : Int):=by omega
   repeat' (first|simp (maxSteps:=9^7) only [seval,exC,ZdE,h1,Zrg,ZbI,ia11,rd11,or_s,or_d,c1,wr]|simp (maxSteps:=9^7) (disch:=first|with_reducible assumption|omega) only [dxB]|(simp only [kdB];split)|(simp only [kvB];split))
  ·simp only [Fm.sg] at hk; omega
theorem ZzZ (F : Fm) (w : Nat) : (F.ex w = 0∧F.fc w = 0∧F.cls w = 1)∨(F.ex w = 0∧F.fc w≠0∧F.cls w = 2)∨(F.ex w≠0∧F.ex w < F.most∧F.cls w = 3)∨(F.ex w≠0∧¬ F.ex w < F.most∧F.fc w = 0∧F.cls w = 4)∨(F.ex w≠0∧¬ F.ex w < F.most∧F.fc w≠0∧F.cls w = 5):=by
 unfold Fm.cls
 generalize F.ex w = x
 generalize F.fc w = y
 repeat' split
 all_goals omega
theorem ZEa (F : Fm) (w : Nat) : (F.ng w = true∧F.sg≤w)∨(F.ng w = false∧w < F.sg):=by
 unfold Fm.ng
 by_cases h : F.sg≤w
 ·left; exact ⟨decide_eq_true h,h⟩
 ·right; exact ⟨decide_eq_false h,by omega⟩
theorem Znn (J : Al G T g) (F : Fm) {w : Nat} (hw : w < 2 * F.sg) : run G T 201 [shA F,.int .u64 (w : Int)] = some (.int .u8 (F.cls w)):=by
 rw [Zab G T J.U.word_shape_class]
 obtain ⟨q1,q2,q3,q4⟩:=ZkL hw
 have hc:=ZzZ F w
 have hlt : w % F.sg < F.sg:=Nat.mod_lt _ (by cases F <;> decide)
 clear q1
 generalize F.cls w = c at *
 generalize F.ex w = x at *
 generalize F.fc w = y at *
 cases F
 ·have h2:=ZBk (w:=w) hw
  have hi:=ZmW J .s
  simp only [shA,Fm.u,Fm.fr,Fm.sg,Fm.most,Int.cast_ofNat_Int,Nat.reducePow,Nat.reduceMul] at *
  generalize w % 2147483648 = s at *
  repeat' (first|simp (maxSteps:=9^7) only [seval,exC,ZbE,h2,hi]|simp (maxSteps:=9^7) (disch:=first|with_reducible assumption|omega) only [dxB]|(simp only [kdB];split)|(simp only [kvB];split))
  all_goals (refine Zlj ?_; omega)
 ·have h2:=ZBj (w:=w) hw
  have hi:=ZmW J .d
  simp only [shA,Fm.u,Fm.fr,Fm.sg,Fm.most,Int.cast_ofNat_Int,Nat.reducePow,Nat.reduceMul] at *
  generalize w % 9223372036854775808 = s at *
  repeat' (first|simp (maxSteps:=9^7) only [seval,exC,ZbE,h2,hi]|simp (maxSteps:=9^7) (disch:=first|with_reducible assumption|omega) only [dxB]|(simp only [kdB];split)|(simp only [kvB];split))
  all_goals (refine Zlj ?_; omega)
theorem Zqc (J : Al G T g) (F : Fm) {w : Nat} (hw : w < 2 * F.sg) : run G T 200 [shA F,.int .u64 (w : Int)] = some (fldA (F.ng w) (F.ex w) (F.fc w)):=by
 rw [Zab G T J.U.word_shape_split]
 have hlt : w % F.sg < F.sg:=Nat.mod_lt _ (by cases F <;> decide)
 have hn:=ZEa F w
 have e2 : w % F.sg / 2 ^ F.fr = F.ex w:=rfl
 have e3 : w % F.sg % 2 ^ F.fr = F.fc w:=rfl
 have q4:=(ZkL hw).2.2.2
 generalize F.ng w = n at *
 generalize F.ex w = x at *
 generalize F.fc w = y at *
 cases F
 ·have h2:=ZBk (w:=w) hw
  have h4:=ZHn (w:=w) hw
  simp only [shA,Fm.u,Fm.fr,Fm.sg,Fm.most,fldA,Int.cast_ofNat_Int,Nat.reducePow] at *
  generalize w % 2147483648 = s at *
  have h5:=ZER (w:=s) (by omega)
  rw [e3] at h5
  have w1 : (s : Int) / 8388608 = (x : Int):=by omega
  rcases hn with ⟨rfl,hn⟩ | ⟨rfl,hn⟩
  ·rw [if_pos hn] at h4
   repeat' (first|simp (maxSteps:=9^7) only [seval,exC,ZaO,h2,h4,h5,w1]|simp (maxSteps:=9^7) (disch:=first|with_reducible assumption|omega) only [dxB]|(simp only [kdB];split)|(simp only [kvB];split))
  ·rw [if_neg (by omega)] at h4
   repeat' (first|simp (maxSteps:=9^7) only [seval,exC,ZaO,h2,h4,h5,w1]|simp (maxSteps:=9^7) (disch:=first|with_reducible assumption|omega) only [dxB]|(simp only [kdB];split)|(simp only [kvB];split))
 ·have h2:=ZBj (w:=w) hw
  have h4:=ZHm (w:=w) hw
  simp only [shA,Fm.u,Fm.fr,Fm.sg,Fm.most,fldA,Int.cast_ofNat_Int,Nat.reducePow] at *
  generalize w % 9223372036854775808 = s at *
  have h5:=ZEQ (w:=s) (by omega)
  rw [e3] at h5
  have w1 : (s : Int) / 4503599627370496 = (x : Int):=by omega
  rcases hn with ⟨rfl,hn⟩ | ⟨rfl,hn⟩
  ·rw [if_pos hn] at h4
   repeat' (first|simp (maxSteps:=9^7) only [seval,exC,ZaO,h2,h4,h5,w1]|simp (maxSteps:=9^7) (disch:=first|with_reducible assumption|omega) only [dxB]|(simp only [kdB];split)|(simp only [kvB];split))
  ·rw [if_neg (by omega)] at h4
   repeat' (first|simp (maxSteps:=9^7) only [seval,exC,ZaO,h2,h4,h5,w1]|simp (maxSteps:=9^7) (disch:=first|with_reducible assumption|omega) only [dxB]|(simp only [kdB];split)|(simp only [kvB];split))
theorem Zbx {F : Fm} {w : Nat} (h : w < 2 * F.sg) : w < 18446744073709551616:=by
 have : 2 * F.sg≤18446744073709551616:=by cases F <;> decide
 omega
theorem ZiI (J : Al G T g) (F : Fm) {w : Nat} (hw : w < 2 * F.sg) : run G T 193 [.int .u8 F.u,.int .u64 (w : Int)] = some (.tup [.int .u8 (F.cls w),.int .i64 0]):=by
 rw [Zab G T J.U.ZiI]
 have h1:=ZiJ J F (Zbx hw)
 rw [if_pos hw] at h1
 have h2:=Znn J F hw
 generalize F.cls w = c at *
 simp only [shA] at *
 repeat' (first|simp (maxSteps:=9^7) only [seval,exC,Zhy,h1,h2]|simp (maxSteps:=9^7) (disch:=first|with_reducible assumption|omega) only [dxB]|(simp only [kdB];split)|(simp only [kvB];split))
theorem Zfd (J : Al G T g) (F : Fm) {w : Nat} (hw : w < 2 * F.sg) : run G T 192 [.int .u8 F.u,.int .u64 (w : Int)] = some (.tup [fldA (F.ng w) (F.ex w) (F.fc w),.int .i64 0]):=by
 rw [Zab G T J.U.Zfd]
 have h1:=ZiJ J F (Zbx hw)
 rw [if_pos hw] at h1
 have h2:=Zqc J F hw
 generalize F.ng w = n at *
 generalize F.ex w = x at *
 generalize F.fc w = y at *
 simp only [shA,fldA] at *
 repeat' (first|simp (maxSteps:=9^7) only [seval,exC,ZhA,h1,h2]|simp (maxSteps:=9^7) (disch:=first|with_reducible assumption|omega) only [dxB]|(simp only [kdB];split)|(simp only [kvB];split))
theorem ZlM (J : Al G T g) (F : Fm) {w : Nat} (hw : w < 2 * F.sg) : run G T 202 [.int .u8 F.u,.int .u64 (w : Int)] = some (.tup [shA F,.int .i64 (if F.fin w then 0 else 7)]):=by
 rw [Zab G T J.U.ZlM]
 have h1:=ZiJ J F (Zbx hw)
 rw [if_pos hw] at h1
 have h2:=Znn J F hw
 have h3:=Zas (F:=F) (w:=w)
 have h4:=Zdq F w
 by_cases hf : F.fin w
 ·rw [if_pos hf]
  have h5:=h3.1 hf
  clear h3
  generalize F.cls w = c at *
  have c1 : ¬ (4 : Int)≤c:=by omega
  simp only [shA] at *
  repeat' (first|simp (maxSteps:=9^7) only [seval,exC,Zev,h1,h2,c1]|simp (maxSteps:=9^7) (disch:=first|with_reducible assumption|omega) only [dxB]|(simp only [kdB];split)|(simp only [kvB];split))
 ·rw [if_neg hf]
  have h5 : ¬ (F.cls w = 1∨F.cls w = 2∨F.cls w = 3):=fun h => hf (h3.2 h)
  clear h3
  generalize F.cls w = c at *
  have c1 : (4 : Int)≤c:=by omega
  simp only [shA] at *
  repeat' (first|simp (maxSteps:=9^7) only [seval,exC,Zev,h1,h2,c1]|simp (maxSteps:=9^7) (disch:=first|with_reducible assumption|omega) only [dxB]|(simp only [kdB];split)|(simp only [kvB];split))
theorem ZHF {y k : Nat} (h : y < 2 ^ k) (hk : k < 63) : orI .u64 (y : Int) ((2 ^ k : Nat) : Int) = ((2 ^ k + y : Nat) : Int):=by
 have hp : (2 : Nat) ^ k < 2 ^ 64:=Nat.pow_lt_pow_right (by decide) (by omega)
 have e:=Zlt (c:=y) (x:=1) (s:=k) h
 rw [Nat.one_mul] at e
 rw [or64 (by omega) (by omega),e,Nat.add_comm]
theorem Zfe (J : Al G T g) (F : Fm) {w : Nat} (hw : w < 2 * F.sg) :
  ∃ z k,run G T 194 [.int .u8 F.u,.int .u64 (w : Int)] = some (.tup [DyA z (F.vl w),.int .i64 k]):=by
 have h1:=ZlM J F hw
 by_cases hf : F.fin w
 ·rw [if_pos hf] at h1
  have h2:=Zqc J F hw
  have h3:=ZvQ J F
  have hy : F.fc w < 2 ^ F.fr:=Nat.mod_lt _ (Nat.two_pow_pos _)
  have hp : 2 ^ F.fr≤4503599627370496:=by cases F <;> decide
  have hF:=ZaU F
  have hm : F.most≤2047:=by cases F <;> decide
  have hvl : F.vl w = F.val w:=if_pos hf
  rw [hvl]
  unfold Fm.fin at hf
  unfold Fm.val
  have hor:=ZHF hy (by omega)
  generalize F.ex w = x at *
  generalize F.fc w = y at *
  generalize F.ng w = n at *
  have hb1 : blen y≤53:=Zaf.2 (by omega)
  have hb2 : blen (2 ^ F.fr + y)≤53:=Zaf.2 (by omega)
  have hmin : min F.fr 64 = F.fr:=by omega
  have hp0:=Nat.two_pow_pos F.fr
  by_cases h0 : x = 0
  ·subst h0
   obtain ⟨z1,o1⟩:=ZoN J (n:=y) (by omega)
   obtain ⟨z2,o2⟩:=ZbV J (n:=n) (z:=z1) (a:=y) (e:=F.low) (Zaq (by omega)) (ZpK (by omega) (by omega)) (by omega)
   have w1 : max (0 : Int) 1 = 1:=by decide
   have w2 : IntKind.i64.wrap (1 - 1) = 0:=rfl
   have w3 : IntKind.i64.wrap (0 + F.low) = F.low:=by rw [Int.zero_add]; exact Zae (by omega)
   have w4 : IntKind.i64.wrap F.low = F.low:=Zae (by omega)
   refine ⟨z2,0,?_⟩
   rw [if_pos rfl,Zab G T J.U.Zfe]
   simp only [shA,fldA,cast0,DyA,A3] at *
   repeat' (first|simp (maxSteps:=9^7) only [seval,exC,ZdQ,h1,h2,h3,o1,w1,w2,w3,w4,ZjC,o2,Int.zero_add]|simp (maxSteps:=9^7) (disch:=first|with_reducible assumption|omega) only [dxB]|(simp only [kdB];split)|(simp only [kvB];split))
  ·obtain ⟨z1,o1⟩:=ZoN J (n:=2 ^ F.fr + y) (by omega)
   obtain ⟨z2,o2⟩:=ZbV J (n:=n) (z:=z1) (a:=2 ^ F.fr + y) (e:=x - 1 + F.low) (Zaq (by omega)) (ZpK (by omega) (by omega)) (by omega)
   have c0 : (0 : Int) < (x : Int):=by omega
   have w1 : max (x : Int) 1 = x:=by omega
   have w2 : IntKind.i64.wrap ((x : Int) - 1) = x - 1:=Zae (by omega)
   have w3 : IntKind.i64.wrap ((x : Int) - 1 + F.low) = x - 1 + F.low:=Zae (by omega)
   have w5 : (1 * (2 : Int) ^ F.fr) % 18446744073709551616 = ((2 ^ F.fr : Nat) : Int):=by rw [Zba]; omega
   have w6 : ((2 : Int) ^ F.fr) % 18446744073709551616 = ((2 ^ F.fr : Nat) : Int):=by rw [Zba]; omega
   refine ⟨z2,0,?_⟩
   rw [if_neg h0,Zab G T J.U.Zfe]
   simp only [shA,fldA,DyA,A3] at *
   repeat' (first|simp (maxSteps:=9^7) only [seval,exC,ZdQ,h1,h2,h3,c0,hmin,w5,w6,hor,o1,w1,w2,w3,ZjC,o2]|simp (maxSteps:=9^7) (disch:=first|with_reducible assumption|omega) only [dxB]|(simp only [kdB];split)|(simp only [kvB];split))
 ·rw [if_neg hf] at h1
  refine ⟨true,7,?_⟩
  have hvl : F.vl w = ⟨false,0,0⟩:=if_neg hf
  rw [hvl,Zab G T J.U.Zfe]
  simp only [shA,DyA,A3,Zaj] at *
  repeat' (first|simp (maxSteps:=9^7) only [seval,exC,ZdQ,h1]|simp (maxSteps:=9^7) (disch:=first|with_reducible assumption|omega) only [dxB]|(simp only [kdB];split)|(simp only [kvB];split))
  all_goals try rfl
theorem ZsE (J : Al G T g) (F : Fm) : run G T 204 [shA F] = some (.int .u64 (F.nan : Int)):=by
 rw [Zab G T J.U.word_shape_none]
 have h:=ZmW (G:=G) J F
 cases F <;> (
  simp only [shA,Fm.u,Fm.fr,Fm.sg,Fm.most,Fm.nan,Int.cast_ofNat_Int,Nat.reducePow,Nat.reduceMul,Nat.reduceSub,Nat.reduceAdd] at *
  repeat' (first|simp (maxSteps:=9^7) only [seval,exC,ZcU,h,ZHH,ZHG]|simp (maxSteps:=9^7) (disch:=first|with_reducible assumption|omega) only [dxB]|(simp only [kdB];split)|(simp only [kvB];split)))
theorem ZmU (J : Al G T g) (F : Fm) : run G T 196 [.int .u8 F.u] = some (.tup [.int .u64 (F.nan : Int),.int .i64 0]):=by
 rw [Zab G T J.U.ZmU]
 have h:=Zgz (G:=G) J F (n:=false) (k:=204) (ZsE J F) (by cases F <;> decide)
 rw [show F.nan + F.sgn false = F.nan from rfl] at h
 repeat' (first|simp (maxSteps:=9^7) only [seval,exC,Zjt,h]|simp (maxSteps:=9^7) (disch:=first|with_reducible assumption|omega) only [dxB]|(simp only [kdB];split)|(simp only [kvB];split))
theorem Zci (a b : Dy) : Nz (mulD a b):=ZlO _ _ _
theorem ZcA {a b : Dy} {K : Nat} (ha : Bd a K) (hb : Bd b K) : Bd (mulD a b) (4 * K):=by
 obtain ⟨a1,a2,a3⟩:=ha
 obtain ⟨b1,b2,b3⟩:=hb
 have hb : blen (a.m * b.m)≤2 * K:=by
  refine Zaf.2 ?_
  rw [show 2 * K = K + K by omega,Nat.pow_add]
  exact Nat.mul_lt_mul_of_lt_of_lt (Zaf.1 a1) (Zaf.1 b1)
 exact Znx (by omega) (by omega) (by omega)
theorem ZbO {d : Dy} (h : Nz d) (b : Bd d 131072) : mayD d.n (dl d.m) d.e = true:=by
 obtain ⟨b1,b2,b3⟩:=b
 have hm : mayL (dl d.m) = true:=Zaq b1
 simp only [mayD,hm,Bool.true_and]
 by_cases h0 : d.m = 0
 ·rw [h.1 h0,Zaj]; rfl
 ·have h1 : ¬ (dl d.m).length = 0:=fun hc => h0 (Zaw.1 hc)
  rw [if_neg h1,dg0]
  have h2:=h.2 h0
  simp only [Bool.and_eq_true,decide_eq_true_eq]
  exact ⟨h2,by omega,by omega⟩
theorem ZmM {d : Dy} : sgnD d = 0↔d.m = 0:=by
 unfold sgnD
 by_cases h : d.m = 0
 ·rw [if_pos h]; exact ⟨fun _ => h,fun _ => rfl⟩
 ·rw [if_neg h]
  constructor
  ·intro hc; split at hc <;> omega
  ·intro hc; exact absurd hc h
theorem Ziy (J : Al G T g) (F : Fm) : run G T 157 [.int .u8 F.u] = some (.int .u64 (F.nan : Int)):=by
 rw [Zab G T J.F.Ziy]
 have h1:=Zfb J F
 have h2:=ZcX J F
 cases F
 ·have h4:=ZdU J .s (n:=false) (x:=255) (w:=4194304) (by decide) (Or.inl (by decide))
  simp only [fldA,Fm.u,Fm.fr,Fm.most,Fm.nan,Fm.inf,Fm.sgn,Fm.sg,Int.cast_ofNat_Int,Nat.reducePow,Nat.reduceMul,Nat.reduceSub,Nat.reduceAdd,Bool.false_eq_true,if_false] at *
  repeat' (first|simp (maxSteps:=9^7) only [seval,exC,ZfF,h1,h2,h4]|simp (maxSteps:=9^7) (disch:=first|with_reducible assumption|omega) only [dxB]|(simp only [kdB];split)|(simp only [kvB];split))
 ·have h4:=ZdU J .d (n:=false) (x:=2047) (w:=2251799813685248) (by decide) (Or.inl (by decide))
  simp only [fldA,Fm.u,Fm.fr,Fm.most,Fm.nan,Fm.inf,Fm.sgn,Fm.sg,Int.cast_ofNat_Int,Nat.reducePow,Nat.reduceMul,Nat.reduceSub,Nat.reduceAdd,Bool.false_eq_true,if_false] at *
  repeat' (first|simp (maxSteps:=9^7) only [seval,exC,ZfF,h1,h2,h4]|simp (maxSteps:=9^7) (disch:=first|with_reducible assumption|omega) only [dxB]|(simp only [kdB];split)|(simp only [kvB];split))
theorem ZkC (J : Al G T g) (F : Fm) {w : Nat} : run G T 233 [.int .u8 F.u,.int .u64 (w : Int)] = some (.bool (F.ng w)):=by
 rw [Zab G T J.H.ZkC]
 have h1:=Zgy J F
 have h2 : decide ((F.sg : Int)≤(w : Int)) = F.ng w:=by unfold Fm.ng; congr 1; apply propext; omega
 repeat' (first|simp (maxSteps:=9^7) only [seval,exC,Zjo,h1,h2]|simp (maxSteps:=9^7) (disch:=first|with_reducible assumption|omega) only [dxB]|(simp only [kdB];split)|(simp only [kvB];split))
theorem ZiA (J : Al G T g) (F : Fm) {w : Nat} (hw : w < 2 * F.sg) : run G T 230 [.int .u8 F.u,.int .u64 (w : Int)] = some (.bool (decide (F.cls w = 5))):=by
 rw [Zab G T J.H.ZiA]
 have h1:=ZaR J F (Zbx hw)
 repeat' (first|simp (maxSteps:=9^7) only [seval,exC,Zjn,h1]|simp (maxSteps:=9^7) (disch:=first|with_reducible assumption|omega) only [dxB]|(simp only [kdB];split)|(simp only [kvB];split))
theorem ZkB (J : Al G T g) (F : Fm) {w : Nat} (hw : w < 2 * F.sg) : run G T 231 [.int .u8 F.u,.int .u64 (w : Int)] = some (.bool (decide (F.cls w = 4))):=by
 rw [Zab G T J.H.ZkB]
 have h1:=ZaR J F (Zbx hw)
 repeat' (first|simp (maxSteps:=9^7) only [seval,exC,Zjm,h1]|simp (maxSteps:=9^7) (disch:=first|with_reducible assumption|omega) only [dxB]|(simp only [kdB];split)|(simp only [kvB];split))
theorem Zle (J : Al G T g) (F : Fm) {w : Nat} (hw : w < 2 * F.sg) : run G T 232 [.int .u8 F.u,.int .u64 (w : Int)] = some (.bool (decide (F.cls w = 1))):=by
 rw [Zab G T J.H.Zle]
 have h1:=ZaR J F (Zbx hw)
 repeat' (first|simp (maxSteps:=9^7) only [seval,exC,Zhw,h1]|simp (maxSteps:=9^7) (disch:=first|with_reducible assumption|omega) only [dxB]|(simp only [kdB];split)|(simp only [kvB];split))
theorem ZjK (J : Al G T g) (F : Fm) {md : Int} : run G T 234 [.int .u8 F.u,.int .u8 md] = some (.int .u64 ((F.sgn (decide (md = 5)) : Nat) : Int)):=by
 rw [Zab G T J.H.ZjK]
 have h1:=Zbq J F (n:=decide (md = 5)) (w:=0)
 rw [Nat.zero_mod,Nat.zero_add,cast0] at h1
 repeat' (first|simp (maxSteps:=9^7) only [seval,exC,Zel,h1]|simp (maxSteps:=9^7) (disch:=first|with_reducible assumption|omega) only [dxB]|(simp only [kdB];split)|(simp only [kvB];split))
theorem ZEf (J : Al G T g) (F : Fm) {md : Int} (hm : 1≤md∧md≤5) {z : Bool} {d : Dy} (hz : Nz d) (hb : Bd d 131072) :
  run G T 16 [DyA z d] = some (.int .i64 (sgnD d)) ∧
  ((sgnD d = 0∧run G T 234 [.int .u8 F.u,.int .u8 md] = some (.int .u64 ((sumW F md d).1 : Int))∧(sumW F md d).2 = 0) ∨
   (¬ sgnD d = 0∧run G T 12 [.int .u8 F.u,.int .u8 md,DyA z d] = some (.tup [.int .u64 ((sumW F md d).1 : Int),.int .u8 ((sumW F md d).2 : Int)]))):=by
 refine ⟨ZbB J,?_⟩
 by_cases h0 : d.m = 0
 ·left
  have h1:=ZjK J F (md:=md)
  unfold sumW
  rw [if_pos h0]
  exact ⟨ZmM.2 h0,h1,rfl⟩
 ·right
  have h1:=ZgU J F hm (z:=z) hz (hb.mono (by decide))
  unfold sumW
  rw [if_neg h0]
  exact ⟨fun h => h0 (ZmM.1 h),h1⟩
theorem ZvR (F : Fm) (md : Int) {a b : Nat} (ha : a < 2 * F.sg) (hb : b < 2 * F.sg) :
  (F.cls a = 5∧addW F md a b = (F.nan,0))∨(F.cls a≠5∧F.cls b = 5∧addW F md a b = (F.nan,0)) ∨
  (F.cls a = 4∧F.cls b = 4∧a = b∧addW F md a b = (a,0))∨(F.cls a = 4∧F.cls b = 4∧a≠b∧addW F md a b = (F.nan,1)) ∨
  (F.cls a = 4∧F.cls b≠4∧F.cls b≠5∧addW F md a b = (a,0))∨(F.cls a≠4∧F.cls a≠5∧F.cls b = 4∧addW F md a b = (b,0)) ∨
  (F.fin a∧F.fin b∧F.cls a = 1∧a = b∧addW F md a b = (a,0))∨(F.fin a∧F.fin b∧(F.cls a≠1∨a≠b)∧addW F md a b = sumW F md (addD (F.vl a) (F.vl b))):=by
 unfold addW addP
 have ra:=Zdq F a
 have rb:=Zdq F b
 by_cases a5 : F.cls a = 5
 ·left; exact ⟨a5,if_pos (Or.inl a5)⟩
 ·right
  by_cases b5 : F.cls b = 5
  ·left; exact ⟨a5,b5,if_pos (Or.inr b5)⟩
  ·right
   rw [if_neg (by omega)]
   by_cases a4 : F.cls a = 4
   ·have ea:=ZlX ha a4
    by_cases b4 : F.cls b = 4
    ·have eb:=ZlX hb b4
     by_cases hn : F.ng a = F.ng b
     ·left
      refine ⟨a4,b4,by rw [ea,eb,hn],?_⟩
      rw [if_neg (fun h => h.2.2 hn),if_pos a4,← ea]
     ·right; left
      refine ⟨a4,b4,?_,if_pos ⟨a4,b4,hn⟩⟩
      intro hc; exact hn (by rw [hc])
    ·right; right; left
     refine ⟨a4,b4,b5,?_⟩
     rw [if_neg (fun h => b4 h.2.1),if_pos a4,← ea]
   ·by_cases b4 : F.cls b = 4
    ·right; right; right; left
     refine ⟨a4,a5,b4,?_⟩
     rw [if_neg (fun h => a4 h.1),if_neg a4,if_pos b4,← ZlX hb b4]
    ·right; right; right; right
     have fa : F.fin a:=Zas.2 (by omega)
     have fb : F.fin b:=Zas.2 (by omega)
     rw [if_neg (fun h => a4 h.1),if_neg a4,if_neg b4]
     by_cases h1 : F.cls a = 1∧a = b
     ·left
      refine ⟨fa,fb,h1.1,h1.2,?_⟩
      rw [if_pos ⟨h1.1,by rw [← h1.2]; exact h1.1,by rw [h1.2]⟩,← (ZeY ha h1.1).1]
     ·right
      refine ⟨fa,fb,?_,?_⟩
      ·by_cases q : F.cls a = 1
       ·exact Or.inr (fun hc => h1 ⟨q,hc⟩)
       ·exact Or.inl q
      ·rw [if_neg]
       rintro ⟨q1,q2,q3⟩
       exact h1 ⟨q1,by rw [(ZeY ha q1).1,(ZeY hb q2).1,q3]⟩
theorem ZbY {F : Fm} {w : Nat} (h : F.fin w) : F.vl w = F.val w:=if_pos h
theorem ZkA (J : Al G T g) (F : Fm) {md : Int} (hm : 1≤md∧md≤5) {a b : Nat} (ha : a < 2 * F.sg) (hb : b < 2 * F.sg) :
  run G T 219 [.int .u8 F.u,.int .u8 md,.int .u64 (a : Int),.int .u64 (b : Int)] = some (.tup [.int .u64 ((addW F md a b).1 : Int),.int .u8 ((addW F md a b).2 : Int)]):=by
 rw [Zab G T J.H.ZkA]
 have na:=ZiA J F ha
 have nb:=ZiA J F hb
 have ia:=ZkB J F ha
 have ib:=ZkB J F hb
 have za:=Zle J F ha
 have nn:=Ziy J F
 have ra:=Zdq F a
 have rb:=Zdq F b
 rcases ZvR F md ha hb with ⟨h1,W⟩ | ⟨h1,h2,W⟩ | ⟨h1,h2,h3,W⟩ | ⟨h1,h2,h3,W⟩ | ⟨h1,h2,h3,W⟩ | ⟨h1,h2,h3,W⟩ | ⟨h1,h2,h3,h4,W⟩ | ⟨h1,h2,h3,W⟩
 ·rw [W]
  rw [decide_eq_true h1] at na
  repeat' (first|simp (maxSteps:=9^7) only [seval,exC,ZaN,na,nn]|simp (maxSteps:=9^7) (disch:=first|with_reducible assumption|omega) only [dxB]|(simp only [kdB];split)|(simp only [kvB];split))
  all_goals rfl
 ·rw [W]
  rw [decide_eq_false h1] at na
  rw [decide_eq_true h2] at nb
  repeat' (first|simp (maxSteps:=9^7) only [seval,exC,ZaN,na,nb,nn]|simp (maxSteps:=9^7) (disch:=first|with_reducible assumption|omega) only [dxB]|(simp only [kdB];split)|(simp only [kvB];split))
  all_goals rfl
 ·rw [W]
  rw [decide_eq_false (by omega)] at na nb
  rw [decide_eq_true h1] at ia
  rw [decide_eq_true h2] at ib
  subst h3
  repeat' (first|simp (maxSteps:=9^7) only [seval,exC,ZaN,na,nb,ia,ib]|simp (maxSteps:=9^7) (disch:=first|with_reducible assumption|omega) only [dxB]|(simp only [kdB];split)|(simp only [kvB];split))
  all_goals rfl
 ·rw [W]
  rw [decide_eq_false (by omega)] at na nb
  rw [decide_eq_true h1] at ia
  rw [decide_eq_true h2] at ib
  have hab : ¬ (a : Int) = (b : Int):=by omega
  repeat' (first|simp (maxSteps:=9^7) only [seval,exC,ZaN,na,nb,ia,ib,hab,nn]|simp (maxSteps:=9^7) (disch:=first|with_reducible assumption|omega) only [dxB]|(simp only [kdB];split)|(simp only [kvB];split))
  all_goals rfl
 ·rw [W]
  rw [decide_eq_false (by omega)] at na nb
  rw [decide_eq_true h1] at ia
  rw [decide_eq_false h2] at ib
  repeat' (first|simp (maxSteps:=9^7) only [seval,exC,ZaN,na,nb,ia,ib]|simp (maxSteps:=9^7) (disch:=first|with_reducible assumption|omega) only [dxB]|(simp only [kdB];split)|(simp only [kvB];split))
  all_goals rfl
 ·rw [W]
  rw [decide_eq_false (by omega)] at na nb
  rw [decide_eq_false h1] at ia
  rw [decide_eq_true h3] at ib
  repeat' (first|simp (maxSteps:=9^7) only [seval,exC,ZaN,na,nb,ia,ib]|simp (maxSteps:=9^7) (disch:=first|with_reducible assumption|omega) only [dxB]|(simp only [kdB];split)|(simp only [kvB];split))
  all_goals rfl
 ·rw [W]
  have q1:=Zas.1 h1
  have q2:=Zas.1 h2
  rw [decide_eq_false (by omega)] at na nb ia ib
  rw [decide_eq_true h3] at za
  subst h4
  repeat' (first|simp (maxSteps:=9^7) only [seval,exC,ZaN,na,nb,ia,ib,za]|simp (maxSteps:=9^7) (disch:=first|with_reducible assumption|omega) only [dxB]|(simp only [kdB];split)|(simp only [kvB];split))
  all_goals rfl
 ·rw [W]
  have q1:=Zas.1 h1
  have q2:=Zas.1 h2
  rw [decide_eq_false (by omega)] at na nb ia ib
  obtain ⟨z1,v1⟩:=ZbJ J F (Zbx ha) h1
  obtain ⟨z2,v2⟩:=ZbJ J F (Zbx hb) h2
  rw [← ZbY h1] at v1
  rw [← ZbY h2] at v2
  have b1:=Zdh F a
  have b2:=Zdh F b
  obtain ⟨z3,s1⟩:=ZcJ J (z:=z1) (y:=z2) (b1.mono (by decide)) (b2.mono (by decide))
  obtain ⟨g1,g2⟩:=ZEf J F hm (z:=z3) (ZgX (ZfQ F a) (ZfQ F b)) ((Zfz b1 b2).mono (by decide))
  generalize sumW F md (addD (F.vl a) (F.vl b)) = S at *
  generalize addD (F.vl a) (F.vl b) = s at *
  generalize F.vl a = va at *
  generalize F.vl b = vb at *
  have hza : (F.cls a = 1∧¬ (a : Int) = (b : Int))∨¬ F.cls a = 1:=by omega
  clear b1 b2 W ra rb q1 q2 h3 nn
  simp only [DyA,A3] at *
  rcases hza with ⟨k1,k2⟩ | k1
  ·rw [decide_eq_true k1] at za
   rcases g2 with ⟨g3,g4,g5⟩ | ⟨g3,g4⟩
   ·rw [g5,cast0]
    repeat' (first|simp (maxSteps:=9^7) only [seval,exC,ZaN,na,nb,ia,ib,za,k2,v1,v2,s1,g1,g3,g4]|simp (maxSteps:=9^7) (disch:=first|with_reducible assumption|omega) only [dxB]|(simp only [kdB];split)|(simp only [kvB];split))
    all_goals try rfl
   ·repeat' (first|simp (maxSteps:=9^7) only [seval,exC,ZaN,na,nb,ia,ib,za,k2,v1,v2,s1,g1,g3,g4]|simp (maxSteps:=9^7) (disch:=first|with_reducible assumption|omega) only [dxB]|(simp only [kdB];split)|(simp only [kvB];split))
    all_goals try rfl
  ·rw [decide_eq_false k1] at za
   rcases g2 with ⟨g3,g4,g5⟩ | ⟨g3,g4⟩
   ·rw [g5,cast0]
    repeat' (first|simp (maxSteps:=9^7) only [seval,exC,ZaN,na,nb,ia,ib,za,v1,v2,s1,g1,g3,g4]|simp (maxSteps:=9^7) (disch:=first|with_reducible assumption|omega) only [dxB]|(simp only [kdB];split)|(simp only [kvB];split))
    all_goals try rfl
   ·repeat' (first|simp (maxSteps:=9^7) only [seval,exC,ZaN,na,nb,ia,ib,za,v1,v2,s1,g1,g3,g4]|simp (maxSteps:=9^7) (disch:=first|with_reducible assumption|omega) only [dxB]|(simp only [kdB];split)|(simp only [kvB];split))
    all_goals try rfl
theorem ZoX (J : Al G T g) (F : Fm) {md : Int} (hm : 1≤md∧md≤5) {a b : Nat} (ha : a < 2 * F.sg) (hb : b < 2 * F.sg) :
  run G T 220 [.int .u8 F.u,.int .u8 md,.int .u64 (a : Int),.int .u64 (b : Int)] = some (.tup [.int .u64 ((subW F md a b).1 : Int),.int .u8 ((subW F md a b).2 : Int)]):=by
 rw [Zab G T J.H.ZoX]
 have nb:=ZiA J F hb
 have gb:=ZkC J F (w:=b)
 obtain ⟨f1,f2,f3,f4⟩:=ZpG hb
 have sd:=Zbq J F (n:=!F.ng b) (w:=b)
 rw [show b % F.sg + F.sgn (!F.ng b) = F.flip b from rfl] at sd
 by_cases h1 : F.cls b = 5
 ·rw [decide_eq_true h1] at nb
  have ad:=ZkA J F hm ha hb
  have W : subW F md a b = addW F md a b:=by
   unfold subW addW addP; rw [if_pos (Or.inr h1),if_pos (Or.inr h1)]
  rw [W]
  repeat' (first|simp (maxSteps:=9^7) only [seval,exC,ZgN,nb,ad]|simp (maxSteps:=9^7) (disch:=first|with_reducible assumption|omega) only [dxB]|(simp only [kdB];split)|(simp only [kvB];split))
  all_goals try rfl
 ·rw [decide_eq_false h1] at nb
  have ad:=ZkA J F hm ha f1
  rw [Zsx F md hb]
  generalize addW F md a (F.flip b) = W at *
  generalize F.flip b = c at *
  cases hn : F.ng b <;> (
   rw [hn] at gb sd
   simp only [Bool.not_true,Bool.not_false] at sd
   repeat' (first|simp (maxSteps:=9^7) only [seval,exC,ZgN,nb,gb,sd,ad]|simp (maxSteps:=9^7) (disch:=first|with_reducible assumption|omega) only [dxB]|(simp only [kdB];split)|(simp only [kvB];split))
   all_goals try rfl)
structure KindR (G : Nat→Option (List AV)) (T : Tbl) (F : Fm) (w : Nat) (n i z : Bool) : Prop where
 nan : run G T 230 [.int .u8 F.u,.int .u64 (w : Int)] = some (.bool n)
 inf : run G T 231 [.int .u8 F.u,.int .u64 (w : Int)] = some (.bool i)
 zer : run G T 232 [.int .u8 F.u,.int .u64 (w : Int)] = some (.bool z)
theorem ZpP (J : Al G T g) (F : Fm) {w : Nat} (hw : w < 2 * F.sg) :
  (F.cls w = 5∧KindR G T F w true false false)∨(F.cls w = 4∧KindR G T F w false true false)∨(F.cls w = 1∧KindR G T F w false false true)∨((F.fin w∧F.cls w≠1∧F.cls w≠4∧F.cls w≠5)∧KindR G T F w false false false):=by
 have h1:=ZiA J F hw
 have h2:=ZkB J F hw
 have h3:=Zle J F hw
 have r:=Zdq F w
 by_cases a : F.cls w = 5
 ·left; rw [decide_eq_true a] at h1; rw [decide_eq_false (by omega)] at h2 h3; exact ⟨a,h1,h2,h3⟩
 ·right
  by_cases b : F.cls w = 4
  ·left; rw [decide_eq_true b] at h2; rw [decide_eq_false (by omega)] at h1 h3; exact ⟨b,h1,h2,h3⟩
  ·right
   by_cases c : F.cls w = 1
   ·left; rw [decide_eq_true c] at h3; rw [decide_eq_false (by omega)] at h1 h2; exact ⟨c,h1,h2,h3⟩
   ·right; rw [decide_eq_false (by omega)] at h1 h2 h3; exact ⟨⟨Zas.2 (by omega),c,b,a⟩,h1,h2,h3⟩
set_option maxHeartbeats 16000000 in
theorem Ziz (J : Al G T g) (F : Fm) {md : Int} (hm : 1≤md∧md≤5) {a b : Nat} (ha : a < 2 * F.sg) (hb : b < 2 * F.sg) :
  run G T 222 [.int .u8 F.u,.int .u8 md,.int .u64 (a : Int),.int .u64 (b : Int)] = some (.tup [.int .u64 ((mulW2 F md a b).1 : Int),.int .u8 ((mulW2 F md a b).2 : Int)]):=by
 rw [Zab G T J.H.Ziz]
 have nn:=Ziy J F
 have ga:=ZkC J F (w:=a)
 have gb:=ZkC J F (w:=b)
 have inf:=Zkw J F (n:=F.ng a != F.ng b)
 have sg:=Zbq J F (n:=F.ng a != F.ng b) (w:=0)
 rw [Nat.zero_mod,Nat.zero_add,cast0] at sg
 unfold mulW2 mulP
 rcases ZpP J F ha with ⟨ka,na,ia,za⟩ | ⟨ka,na,ia,za⟩ | ⟨ka,na,ia,za⟩ | ⟨⟨fa,ka,ka2,ka3⟩,na,ia,za⟩
 ·rw [if_pos (Or.inl ka)]
  repeat' (first|simp (maxSteps:=9^7) only [seval,exC,Zcd,na,nn]|simp (maxSteps:=9^7) (disch:=first|with_reducible assumption|omega) only [dxB]|(simp only [kdB];split)|(simp only [kvB];split))
  all_goals rfl
 all_goals rcases ZpP J F hb with ⟨kb,nb,ib,zb⟩ | ⟨kb,nb,ib,zb⟩ | ⟨kb,nb,ib,zb⟩ | ⟨⟨fb,kb,kb2,kb3⟩,nb,ib,zb⟩
 all_goals try (
  rw [if_pos (Or.inr kb)]
  repeat' (first|simp (maxSteps:=9^7) only [seval,exC,Zcd,na,nb,nn]|simp (maxSteps:=9^7) (disch:=first|with_reducible assumption|omega) only [dxB]|(simp only [kdB];split)|(simp only [kvB];split))
  all_goals rfl
  done)
 all_goals rw [if_neg (by omega)]
 all_goals try (
  rw [if_pos (by omega)]
  repeat' (first|simp (maxSteps:=9^7) only [seval,exC,Zcd,na,nb,ia,za,ib,zb,nn]|simp (maxSteps:=9^7) (disch:=first|with_reducible assumption|omega) only [dxB]|(simp only [kdB];split)|(simp only [kvB];split))
  all_goals rfl
  done)
 all_goals try rw [if_neg (show ¬ ((F.cls a = 4∨F.cls b = 4)∧(F.cls a = 1∨F.cls b = 1)) by omega)]
 all_goals try (
  rw [if_pos (show F.cls a = 4∨F.cls b = 4 by omega)]
  generalize F.ng a = x at *
  generalize F.ng b = y at *
  cases x <;> cases y <;> (
   simp only [bne_self_eq_false,Bool.false_bne,Bool.true_bne,Bool.not_true,Bool.not_false,Bool.bne_true,Bool.bne_false] at inf ⊢
   repeat' (first|simp (maxSteps:=9^7) only [seval,exC,Zcd,na,nb,ia,za,ib,zb,ga,gb,inf]|simp (maxSteps:=9^7) (disch:=first|with_reducible assumption|omega) only [dxB]|(simp only [kdB];split)|(simp only [kvB];split))
   all_goals rfl)
  done)
 all_goals try rw [if_neg (show ¬ (F.cls a = 4∨F.cls b = 4) by omega)]
 all_goals try (
  rw [if_pos (show F.cls a = 1∨F.cls b = 1 by omega)]
  generalize F.ng a = x at *
  generalize F.ng b = y at *
  cases x <;> cases y <;> (
   simp only [bne_self_eq_false,Bool.false_bne,Bool.true_bne,Bool.not_true,Bool.not_false,Bool.bne_true,Bool.bne_false] at sg ⊢
   repeat' (first|simp (maxSteps:=9^7) only [seval,exC,Zcd,na,nb,ia,za,ib,zb,ga,gb,sg]|simp (maxSteps:=9^7) (disch:=first|with_reducible assumption|omega) only [dxB]|(simp only [kdB];split)|(simp only [kvB];split))
   all_goals rfl)
  done)
 rw [if_neg (show ¬ (F.cls a = 1∨F.cls b = 1) by omega)]
 obtain ⟨z1,v1⟩:=ZbJ J F (Zbx ha) fa
 obtain ⟨z2,v2⟩:=ZbJ J F (Zbx hb) fb
 have m1:=Zts ha ka fa
 have m2:=Zts hb kb fb
 rw [← ZbY fa] at v1 m1
 rw [← ZbY fb] at v2 m2
 have b1:=Zdh F a
 have b2:=Zdh F b
 obtain ⟨p1,p2,p3⟩:=b1
 obtain ⟨q1,q2,q3⟩:=b2
 have hl1:=Zaa (F.vl a).m
 have hl2:=Zaa (F.vl b).m
 obtain ⟨z3,s1⟩:=Zkv J (z:=z1) (y:=z2) (a:=F.vl a) (b:=F.vl b) (by omega) (by omega) (by omega) (by omega)
 have r1:=ZgU J F hm (z:=z3) (Zci (F.vl a) (F.vl b)) ((ZcA (Zdh F a) (Zdh F b)).mono (by decide))
 have hne : (F.vl a).m * (F.vl b).m≠0:=by
  intro hc
  rcases Nat.mul_eq_zero.1 hc with h | h
  ·exact m1 h
  ·exact m2 h
 have hm0 : (mulD (F.vl a) (F.vl b)).m≠0:=Zmm hne _
 unfold sumW
 rw [if_neg hm0]
 rw [show mkD ((F.vl a).n != (F.vl b).n) ((F.vl a).m * (F.vl b).m) ((F.vl a).e + (F.vl b).e) = mulD (F.vl a) (F.vl b) from rfl] at s1
 generalize rndW F md (mulD (F.vl a) (F.vl b)) = S at *
 generalize mulD (F.vl a) (F.vl b) = s at *
 clear p1 p2 p3 q1 q2 q3 hl1 hl2 m1 m2 hne hm0
 generalize F.vl a = va at *
 generalize F.vl b = vb at *
 simp only [DyA,A3] at *
 repeat' (first|simp (maxSteps:=9^7) only [seval,exC,Zcd,na,nb,ia,za,ib,zb,ga,gb,v1,v2,s1,r1]|simp (maxSteps:=9^7) (disch:=first|with_reducible assumption|omega) only [dxB]|(simp only [kdB];split)|(simp only [kvB];split))
 all_goals try rfl
theorem rp_0 (h : Mem) (x : AV) (l : List AV) : rdAt G h 1 (.iptr (x :: l) 0) = some [x]:=by simp [rdAt]
theorem rp_1 (h : Mem) (x y : AV) (l : List AV) : rdAt G h 1 (.iptr (x :: y :: l) 1) = some [y]:=by simp [rdAt]
theorem rp_2 (h : Mem) (x y z : AV) (l : List AV) : rdAt G h 1 (.iptr (x :: y :: z :: l) 2) = some [z]:=by simp [rdAt]
theorem wr_1 : IntKind.i64.wrap (0 + 1) = 1:=rfl
theorem wr_2 : IntKind.i64.wrap (1 + 1) = 2:=rfl
theorem wr1 : IntKind.i64.wrap 1 = 1:=rfl
theorem wr2 : IntKind.i64.wrap 2 = 2:=rfl
end Go.Cv
namespace Go.Cv
variable {G : Nat→Option (List AV)} {T : Tbl} {g : Nat}
section
variable (a1 a2 a3 a4 a5 b1 b2 b3 b4 b5 c1 c2 c3 c4 c5 : AV) (k : IntKind)
end
end Go.Cv
namespace Go.Cv
variable {G : Nat→Option (List AV)} {T : Tbl} {g : Nat}
theorem ZnD (cs : List AV) (o b o' : Nat) : apart (.iptr cs o) (.ptr b o') = true:=rfl
end Go.Cv
namespace Go.Cv
variable {G : Nat→Option (List AV)} {T : Tbl} {g : Nat}
section
variable {f md a b c e : Int}
end
end Go.Cv
namespace Go.Cv
variable {G : Nat→Option (List AV)} {T : Tbl} {g : Nat}
def zA (a b : Nat) : AV:=.agg [.int .u64 (a : Int),.int .u64 (b : Int)]
def zcl (c c' : Int) : Int:=if c = 4∨c' = 4 then 3 else if c = 5∨c' = 5 then 4 else if c = 1∧c' = 1 then 1 else 2
def sqD (F : Fm) (a b : Nat) : Dy:=addD (mulD (F.vl a) (F.vl a)) (mulD (F.vl b) (F.vl b))
theorem Ziv (J : Al G T g) (F : Fm) {a b : Nat} (ha : a < 2 * F.sg) (hb : b < 2 * F.sg) : run G T 189 [.int .u8 F.u,zA a b] = some (.tup [.int .u8 (zcl (F.cls a) (F.cls b)),.int .i64 0]):=by
 rw [Zab G T J.U.Ziv]
 have h1:=ZiI J F ha
 have h2:=ZiI J F hb
 unfold zcl
 generalize F.cls a = c at *
 generalize F.cls b = d at *
 simp only [zA] at *
 by_cases q4 : c = 4∨d = 4
 ·rw [if_pos q4]
  by_cases k : c = 4
  ·repeat' (first|simp (maxSteps:=9^7) only [seval,exC,Zbp,h1,h2,k]|simp (maxSteps:=9^7) (disch:=first|with_reducible assumption|omega) only [dxB]|(simp only [kdB];split)|(simp only [kvB];split))
  ·have k2 : d = 4:=by omega
   repeat' (first|simp (maxSteps:=9^7) only [seval,exC,Zbp,h1,h2,k,k2]|simp (maxSteps:=9^7) (disch:=first|with_reducible assumption|omega) only [dxB]|(simp only [kdB];split)|(simp only [kvB];split))
 ·rw [if_neg q4]
  have k1 : ¬ c = 4:=by omega
  have k2 : ¬ d = 4:=by omega
  by_cases q5 : c = 5∨d = 5
  ·rw [if_pos q5]
   by_cases k : c = 5
   ·subst k; repeat' (first|simp (maxSteps:=9^7) only [seval,exC,Zbp,h1,h2,k2]|simp (maxSteps:=9^7) (disch:=first|with_reducible assumption|omega) only [dxB]|(simp only [kdB];split)|(simp only [kvB];split))
   ·have k3 : d = 5:=by omega
    subst k3; repeat' (first|simp (maxSteps:=9^7) only [seval,exC,Zbp,h1,h2,k,k1]|simp (maxSteps:=9^7) (disch:=first|with_reducible assumption|omega) only [dxB]|(simp only [kdB];split)|(simp only [kvB];split))
  ·rw [if_neg q5]
   have k3 : ¬ c = 5:=by omega
   have k4 : ¬ d = 5:=by omega
   by_cases q1 : c = 1∧d = 1
   ·rw [if_pos q1]
    obtain ⟨rfl,rfl⟩:=q1
    repeat' (first|simp (maxSteps:=9^7) only [seval,exC,Zbp,h1,h2]|simp (maxSteps:=9^7) (disch:=first|with_reducible assumption|omega) only [dxB]|(simp only [kdB];split)|(simp only [kvB];split))
   ·rw [if_neg q1]
    by_cases k5 : c = 1
    ·have k6 : ¬ d = 1:=fun h => q1 ⟨k5,h⟩
     subst k5; repeat' (first|simp (maxSteps:=9^7) only [seval,exC,Zbp,h1,h2,k2,k4,k6]|simp (maxSteps:=9^7) (disch:=first|with_reducible assumption|omega) only [dxB]|(simp only [kdB];split)|(simp only [kvB];split))
    ·repeat' (first|simp (maxSteps:=9^7) only [seval,exC,Zbp,h1,h2,k1,k2,k3,k4,k5]|simp (maxSteps:=9^7) (disch:=first|with_reducible assumption|omega) only [dxB]|(simp only [kdB];split)|(simp only [kvB];split))
theorem ZHk (F : Fm) (a b : Nat) : Bd (sqD F a b) 65537:=(Zfz (ZcA (Zdh F a) (Zdh F a)) (ZcA (Zdh F b) (Zdh F b))).mono (by decide)
theorem ZzM (F : Fm) (a b : Nat) : Nz (sqD F a b):=ZgX (Zci _ _) (Zci _ _)
theorem ZrO (d : Dy) : (mulD d d).n = false:=by
 unfold mulD
 rw [show (d.n != d.n) = false by cases d.n <;> rfl]
 unfold mkD; split <;> rfl
theorem ZGQ (F : Fm) (a b : Nat) : (sqD F a b).n = false:=by
 unfold sqD
 have h1:=ZrO (F.vl a)
 have h2:=ZrO (F.vl b)
 generalize mulD (F.vl a) (F.vl a) = x at *
 generalize mulD (F.vl b) (F.vl b) = y at *
 unfold addD
 rw [h1,h2]
 repeat' split
 all_goals first | assumption | (unfold mkD; split <;> rfl)
theorem Zib (J : Al G T g) (F : Fm) {a b : Nat} (ha : a < 2 * F.sg) (hb : b < 2 * F.sg) :
  ∃ z,run G T 191 [.int .u8 F.u,zA a b] = some (DyA z (sqD F a b)):=by
 obtain ⟨z1,k1,v1⟩:=Zfe J F ha
 obtain ⟨z2,k2,v2⟩:=Zfe J F hb
 have b1:=Zdh F a
 have b2:=Zdh F b
 have y1:=ZbO (ZfQ F a) (b1.mono (by decide))
 have y2:=ZbO (ZfQ F b) (b2.mono (by decide))
 obtain ⟨z3,m1⟩:=Zmc J (z:=z1) (y:=z1) (b1.mono (by decide)) (b1.mono (by decide)) y1 y1
 obtain ⟨z4,m2⟩:=Zmc J (z:=z2) (y:=z2) (b2.mono (by decide)) (b2.mono (by decide)) y2 y2
 have b3:=ZcA b1 b1
 have b4:=ZcA b2 b2
 obtain ⟨z5,s1⟩:=Zmb J (z:=z3) (y:=z4) b3 b4 (ZbO (Zci _ _) (b3.mono (by decide))) (ZbO (Zci _ _) (b4.mono (by decide)))
 refine ⟨z5,?_⟩
 rw [Zab G T J.U.Zib]
 unfold sqD
 generalize addD (mulD (F.vl a) (F.vl a)) (mulD (F.vl b) (F.vl b)) = d at *
 generalize mulD (F.vl a) (F.vl a) = p at *
 generalize mulD (F.vl b) (F.vl b) = q at *
 generalize F.vl a = va at *
 generalize F.vl b = vb at *
 clear b1 b2 b3 b4 y1 y2
 simp only [zA,DyA,A3] at *
 repeat' (first|simp (maxSteps:=9^7) only [seval,exC,Zdt,v1,v2,m1,m2,s1]|simp (maxSteps:=9^7) (disch:=first|with_reducible assumption|omega) only [dxB]|(simp only [kdB];split)|(simp only [kvB];split))
def toldW (F : Fm) (c : Int) (X : Nat × Nat) : Nat × Nat:=if c = 3 then (F.inf false,0) else if c = 4 then (F.nan,0) else X
theorem Zkn (J : Al G T g) (F : Fm) {md : Int} (hm : 1≤md∧md≤5) {a b : Nat} (ha : a < 2 * F.sg) (hb : b < 2 * F.sg) {k : Nat} {X : Nat × Nat}
  (hk : ∀ z,run G T k [.int .u8 F.u,.int .u8 md,DyA z (sqD F a b)] = some (.tup [.int .u64 (X.1 : Int),.int .u8 (X.2 : Int),.int .i64 0])) :
  run G T 186 [.int .u8 F.u,.int .u8 md,zA a b,.fn k []] = some (.tup [.int .u64 ((toldW F (zcl (F.cls a) (F.cls b)) X).1 : Int),.int .u8 ((toldW F (zcl (F.cls a) (F.cls b)) X).2 : Int),.int .i64 0]):=by
 rw [Zab G T J.U.Zkn]
 have o1:=ZiC J F hm (neg:=false)
 have c1:=Ziv J F ha hb
 have i1:=ZjS J F (n:=false)
 have n1:=ZmU J F
 obtain ⟨z,s1⟩:=Zib J F ha hb
 have hk:=hk z
 unfold toldW
 generalize zcl (F.cls a) (F.cls b) = c at *
 generalize sqD F a b = d at *
 simp only [zA,DyA,A3] at *
 by_cases k3 : c = 3
 ·rw [if_pos k3]
  repeat' (first|simp (maxSteps:=9^7) only [seval,exC,Zcl,o1,c1,k3,i1]|simp (maxSteps:=9^7) (disch:=first|with_reducible assumption|omega) only [dxB]|(simp only [kdB];split)|(simp only [kvB];split))
  all_goals rfl
 ·rw [if_neg k3]
  by_cases k4 : c = 4
  ·rw [if_pos k4]
   subst k4
   repeat' (first|simp (maxSteps:=9^7) only [seval,exC,Zcl,o1,c1,n1]|simp (maxSteps:=9^7) (disch:=first|with_reducible assumption|omega) only [dxB]|(simp only [kdB];split)|(simp only [kvB];split))
   all_goals rfl
  ·rw [if_neg k4]
   repeat' (first|simp (maxSteps:=9^7) only [seval,exC,Zcl,o1,c1,k3,k4,s1,hk]|simp (maxSteps:=9^7) (disch:=first|with_reducible assumption|omega) only [dxB]|(simp only [kdB];split)|(simp only [kvB];split))
   all_goals try rfl
noncomputable def rtW (F : Fm) (md : Int) (d : Dy) : Nat × Nat:=if d.m = 0 then (0,0) else rootW F md d
noncomputable def absZ (F : Fm) (md : Int) (a b : Nat) : Nat × Nat:=toldW F (zcl (F.cls a) (F.cls b)) (rtW F md (sqD F a b))
theorem ZoJ (J : Al G T g) (F : Fm) {md : Int} (hm : 1≤md∧md≤5) {a b : Nat} (ha : a < 2 * F.sg) (hb : b < 2 * F.sg) :
  run G T 169 [.int .u8 F.u,.int .u8 md,zA a b] = some (.tup [.int .u64 ((absZ F md a b).1 : Int),.int .u8 ((absZ F md a b).2 : Int),.int .i64 0]):=by
 rw [Zab G T J.U.ZoJ]
 have hd:=ZbO (ZzM F a b) ((ZHk F a b).mono (show 65537≤131072 by decide))
 have h1:=Zkn J F hm ha hb (k:=18) (X:=rtW F md (sqD F a b)) (fun z => by
  unfold rtW
  by_cases h0 : (sqD F a b).m = 0
  ·rw [if_pos h0]; exact Zpg J F hm hd h0
  ·rw [if_neg h0]; exact Zlh J F hm hd h0 (ZGQ F a b))
 unfold absZ
 generalize toldW F (zcl (F.cls a) (F.cls b)) (rtW F md (sqD F a b)) = S at *
 simp only [zA] at *
 repeat' (first|simp (maxSteps:=9^7) only [seval,exC,ZfZ,h1]|simp (maxSteps:=9^7) (disch:=first|with_reducible assumption|omega) only [dxB]|(simp only [kdB];split)|(simp only [kvB];split))
 all_goals try rfl
end Go.Cv
namespace Go.Cv
variable {G : Nat→Option (List AV)} {T : Tbl} {g : Nat}
theorem ZgV (J : Al G T g) (F : Fm) {a b : Nat} (ha : a < 2 * F.sg) (hb : b < 2 * F.sg) : run G T 237 [.int .u8 F.u,zA a b] = some (.int .u8 (zcl (F.cls a) (F.cls b))):=by
 rw [Zab G T J.H.ZgV]
 have h1:=ZaR J F (Zbx ha)
 have h2:=ZaR J F (Zbx hb)
 unfold zcl
 generalize F.cls a = c at *
 generalize F.cls b = d at *
 simp only [zA] at *
 by_cases q4 : c = 4∨d = 4
 ·rw [if_pos q4]
  by_cases k : c = 4
  ·repeat' (first|simp (maxSteps:=9^7) only [seval,exC,ZaZ,h1,h2,k]|simp (maxSteps:=9^7) (disch:=first|with_reducible assumption|omega) only [dxB]|(simp only [kdB];split)|(simp only [kvB];split))
  ·have k2 : d = 4:=by omega
   repeat' (first|simp (maxSteps:=9^7) only [seval,exC,ZaZ,h1,h2,k,k2]|simp (maxSteps:=9^7) (disch:=first|with_reducible assumption|omega) only [dxB]|(simp only [kdB];split)|(simp only [kvB];split))
 ·rw [if_neg q4]
  have k1 : ¬ c = 4:=by omega
  have k2 : ¬ d = 4:=by omega
  by_cases q5 : c = 5∨d = 5
  ·rw [if_pos q5]
   by_cases k : c = 5
   ·subst k; repeat' (first|simp (maxSteps:=9^7) only [seval,exC,ZaZ,h1,h2,k2]|simp (maxSteps:=9^7) (disch:=first|with_reducible assumption|omega) only [dxB]|(simp only [kdB];split)|(simp only [kvB];split))
   ·have k3 : d = 5:=by omega
    subst k3; repeat' (first|simp (maxSteps:=9^7) only [seval,exC,ZaZ,h1,h2,k,k1]|simp (maxSteps:=9^7) (disch:=first|with_reducible assumption|omega) only [dxB]|(simp only [kdB];split)|(simp only [kvB];split))
  ·rw [if_neg q5]
   have k3 : ¬ c = 5:=by omega
   have k4 : ¬ d = 5:=by omega
   by_cases q1 : c = 1∧d = 1
   ·rw [if_pos q1]
    obtain ⟨rfl,rfl⟩:=q1
    repeat' (first|simp (maxSteps:=9^7) only [seval,exC,ZaZ,h1,h2]|simp (maxSteps:=9^7) (disch:=first|with_reducible assumption|omega) only [dxB]|(simp only [kdB];split)|(simp only [kvB];split))
   ·rw [if_neg q1]
    by_cases k5 : c = 1
    ·have k6 : ¬ d = 1:=fun h => q1 ⟨k5,h⟩
     subst k5; repeat' (first|simp (maxSteps:=9^7) only [seval,exC,ZaZ,h1,h2,k2,k4,k6]|simp (maxSteps:=9^7) (disch:=first|with_reducible assumption|omega) only [dxB]|(simp only [kdB];split)|(simp only [kvB];split))
    ·repeat' (first|simp (maxSteps:=9^7) only [seval,exC,ZaZ,h1,h2,k1,k2,k3,k4,k5]|simp (maxSteps:=9^7) (disch:=first|with_reducible assumption|omega) only [dxB]|(simp only [kdB];split)|(simp only [kvB];split))
theorem Zkk (e : Env) (h : Heap) : evL G T ZgO e h = kS G T (evL G T ZaF (keepE [0,1,5] e) h) ZgO:=Zad G T rfl e h
section
variable (x y u v : AV) (k : IntKind)
theorem ZDK : iaddrV 2 (.imm 1 [x,y]) (.int k 0) = some (.iptr [x,y] 0):=rfl
theorem Zwi : iaddrV 2 (.imm 2 [x,y,u,v]) (.int k 0) = some (.iptr [x,y,u,v] 0):=rfl
theorem Zwj : iaddrV 2 (.imm 2 [x,y,u,v]) (.int k 1) = some (.iptr [x,y,u,v] 2):=rfl
theorem fa_i (off o : Nat) (cs : List AV) : faddrA off (.iptr cs o) = some (.iptr cs (o + off)):=rfl
theorem rp_3 (h : Mem) (l : List AV) : rdAt G h 1 (.iptr (x :: y :: u :: v :: l) 3) = some [v]:=by simp [rdAt]
end
theorem Zds (F : CallF) (d : Option Nat) (os : List IOper) (e : Env) (h : Heap) (n : Nat) (zero : List AV) (ps : List (Nat × Nat × IOpd)) : evOps G F (⟨d,.bslice n 2 zero ps,none⟩ :: os) e h =
  kBs G F (fillA (repA n zero) (ps.map fun (o,n,x) => (o,n,opd e x))) (.own h.b.length 0 n 2) d os e h:=ZiF G F d os e h n 2 zero ps
theorem ZoY (J : Al G T g) (F : Fm) {a b : Nat} (ha : a < 18446744073709551616) (hb : b < 18446744073709551616) :
  run G T 185 [.int .u8 F.u,.imm 1 [.int .u64 (a : Int),.int .u64 (b : Int)]] = some (.int .i64 (if a < 2 * F.sg∧b < 2 * F.sg then 0 else 6)):=by
 rw [Zab G T J.U.ref10_Good]
 have h1:=Zkx J F
 have h3:=ZdT J F ha
 have h4:=ZdT J F hb
 by_cases k1 : a < 2 * F.sg
 ·rw [if_pos k1] at h3
  by_cases k2 : b < 2 * F.sg
  ·rw [if_pos k2] at h4
   rw [if_pos ⟨k1,k2⟩]
   repeat' (first|simp (maxSteps:=9^7) only [seval,exC,Zbc,h1,Zkk,ZaF,ZDK,fa_i,rp_0,rp_1,wr_1,wr1,h3,h4]|simp (maxSteps:=9^7) (disch:=first|with_reducible assumption|omega) only [dxB]|(simp only [kdB];split)|(simp only [kvB];split))
  ·rw [if_neg k2] at h4
   rw [if_neg (fun h => k2 h.2)]
   repeat' (first|simp (maxSteps:=9^7) only [seval,exC,Zbc,h1,Zkk,ZaF,ZDK,fa_i,rp_0,rp_1,wr_1,wr1,h3,h4]|simp (maxSteps:=9^7) (disch:=first|with_reducible assumption|omega) only [dxB]|(simp only [kdB];split)|(simp only [kvB];split))
 ·rw [if_neg k1] at h3
  rw [if_neg (fun h => k1 h.1)]
  repeat' (first|simp (maxSteps:=9^7) only [seval,exC,Zbc,h1,Zkk,ZaF,ZDK,fa_i,rp_0,rp_1,wr_1,wr1,h3]|simp (maxSteps:=9^7) (disch:=first|with_reducible assumption|omega) only [dxB]|(simp only [kdB];split)|(simp only [kvB];split))
theorem Zth (J : Al G T g) (F : Fm) {a b c d : Nat} (ha : a < 18446744073709551616) (hb : b < 18446744073709551616) (hc : c < 18446744073709551616) (hd : d < 18446744073709551616) :
  run G T 185 [.int .u8 F.u,.imm 2 [.int .u64 (a : Int),.int .u64 (b : Int),.int .u64 (c : Int),.int .u64 (d : Int)]] = some (.int .i64 (if (a < 2 * F.sg∧b < 2 * F.sg)∧(c < 2 * F.sg∧d < 2 * F.sg) then 0 else 6)):=by
 rw [Zab G T J.U.ref10_Good]
 have h1:=Zkx J F
 have h3:=ZdT J F ha
 have h4:=ZdT J F hb
 have h5:=ZdT J F hc
 have h6:=ZdT J F hd
 by_cases k1 : a < 2 * F.sg
 ·rw [if_pos k1] at h3
  by_cases k2 : b < 2 * F.sg
  ·rw [if_pos k2] at h4
   by_cases k3 : c < 2 * F.sg
   ·rw [if_pos k3] at h5
    by_cases k4 : d < 2 * F.sg
    ·rw [if_pos k4] at h6
     rw [if_pos ⟨⟨k1,k2⟩,k3,k4⟩]
     repeat' (first|simp (maxSteps:=9^7) only [seval,exC,Zbc,h1,Zkk,ZaF,Zwi,Zwj,fa_i,rp_0,rp_1,rp_2,rp_3,wr_1,wr1,wr_2,wr2,h3,h4,h5,h6]|simp (maxSteps:=9^7) (disch:=first|with_reducible assumption|omega) only [dxB]|(simp only [kdB];split)|(simp only [kvB];split))
    ·rw [if_neg k4] at h6
     rw [if_neg (fun h => k4 h.2.2)]
     repeat' (first|simp (maxSteps:=9^7) only [seval,exC,Zbc,h1,Zkk,ZaF,Zwi,Zwj,fa_i,rp_0,rp_1,rp_2,rp_3,wr_1,wr1,wr_2,wr2,h3,h4,h5,h6]|simp (maxSteps:=9^7) (disch:=first|with_reducible assumption|omega) only [dxB]|(simp only [kdB];split)|(simp only [kvB];split))
   ·rw [if_neg k3] at h5
    rw [if_neg (fun h => k3 h.2.1)]
    repeat' (first|simp (maxSteps:=9^7) only [seval,exC,Zbc,h1,Zkk,ZaF,Zwi,Zwj,fa_i,rp_0,rp_1,rp_2,rp_3,wr_1,wr1,wr_2,wr2,h3,h4,h5]|simp (maxSteps:=9^7) (disch:=first|with_reducible assumption|omega) only [dxB]|(simp only [kdB];split)|(simp only [kvB];split))
  ·rw [if_neg k2] at h4
   rw [if_neg (fun h => k2 h.1.2)]
   repeat' (first|simp (maxSteps:=9^7) only [seval,exC,Zbc,h1,Zkk,ZaF,Zwi,Zwj,fa_i,rp_0,rp_1,rp_2,rp_3,wr_1,wr1,wr_2,wr2,h3,h4]|simp (maxSteps:=9^7) (disch:=first|with_reducible assumption|omega) only [dxB]|(simp only [kdB];split)|(simp only [kvB];split))
 ·rw [if_neg k1] at h3
  rw [if_neg (fun h => k1 h.1.1)]
  repeat' (first|simp (maxSteps:=9^7) only [seval,exC,Zbc,h1,Zkk,ZaF,Zwi,Zwj,fa_i,rp_0,rp_1,rp_2,rp_3,wr_1,wr1,wr_2,wr2,h3]|simp (maxSteps:=9^7) (disch:=first|with_reducible assumption|omega) only [dxB]|(simp only [kdB];split)|(simp only [kvB];split))
end Go.Cv
namespace Go.Cv
variable {G : Nat→Option (List AV)} {T : Tbl} {g : Nat}
def Fm.min (F : Fm) (w : Nat) : Nat:=if F.cls w = 5 then F.nan else F.flip w
def Sim (F : Fm) (a b : Nat) : Prop:=F.cls a = F.cls b∧mulD (F.vl a) (F.vl a) = mulD (F.vl b) (F.vl b)
theorem Sim.refl (F : Fm) (a : Nat) : Sim F a a:=⟨rfl,rfl⟩
theorem Sim.trans {F : Fm} {a b c : Nat} (h : Sim F a b) (k : Sim F b c) : Sim F a c:=⟨h.1.trans k.1,h.2.trans k.2⟩
theorem neg_mul (d : Dy) : mulD (negD d) (negD d) = mulD d d:=by
 unfold negD
 split
 ·rfl
 ·unfold mulD; simp only; cases d.n <;> rfl
theorem ZjD {a b : Dy} (h : a.m = 0∨b.m = 0) : mulD a b = ⟨false,0,0⟩:=by
 unfold mulD
 rcases h with h | h
 ·rw [h,Nat.zero_mul]; rfl
 ·rw [h,Nat.mul_zero]; rfl
theorem fd_3 (b : Bool) (x y : AV) : fieldA false 0 1 (.agg [.bool b,x,y]) = some (.bool b):=rfl
theorem Ztt (F : Fm) (n : Bool) {k : Nat} {u : Int} (hk0 : k≠0) (hk1 : k < 2 ^ (F.fr + 1)) (hu : F.low≤u) (hku : u = F.low∨2 ^ F.fr≤k) (hs : F.enc k u < F.i0) : F.val (F.enc k u + F.sgn n) = mkD n k u:=by
 have hi:=Zdr F
 obtain ⟨e1,e2⟩:=Zdg n (by omega : F.enc k u < F.sg)
 have hp:=Nat.two_pow_pos F.fr
 rw [Nat.pow_succ] at hk1
 unfold Fm.val Fm.ex Fm.fc
 rw [e1,e2]
 rcases Nat.lt_or_ge k (2 ^ F.fr) with h | h
 ·have hul : u = F.low:=by
   rcases hku with q | q
   ·exact q
   ·omega
  have hE : F.enc k u = k:=by unfold Fm.enc; rw [hul,Int.sub_self]; simp
  rw [hE,Nat.div_eq_of_lt h,if_pos rfl,Nat.mod_eq_of_lt h,hul]
 ·have hE : F.enc k u = (k - 2 ^ F.fr) + 2 ^ F.fr * ((u - F.low).toNat + 1):=by
   unfold Fm.enc; rw [Nat.mul_add,Nat.mul_one,Nat.mul_comm]; omega
  have hlt : k - 2 ^ F.fr < 2 ^ F.fr:=by omega
  have hd : F.enc k u / 2 ^ F.fr = (u - F.low).toNat + 1:=by
   rw [hE,Nat.add_mul_div_left _ _ hp,Nat.div_eq_of_lt hlt,Nat.zero_add]
  have hm : F.enc k u % 2 ^ F.fr = k - 2 ^ F.fr:=by
   rw [hE,Nat.add_mul_mod_self_left,Nat.mod_eq_of_lt hlt]
  rw [hd,hm,if_neg (by omega),show 2 ^ F.fr + (k - 2 ^ F.fr) = k by omega]
  congr 1
  omega
theorem ZAo (F : Fm) {d : Dy} (h : F.fits d) (ho : d.m % 2 = 1) : ∃ s,s≠0∧s < F.i0∧F.val (s + F.sgn d.n) = d:=by
 obtain ⟨h0,h1,h2,h3⟩:=h
 have hF:=ZaU F
 obtain ⟨u,hu⟩ : ∃ u : Int,u = max (d.e + blen d.m - F.fr - 1) F.low:=⟨_,rfl⟩
 have hbp:=Zff h0
 have hbk:=Zau h0 (d.e - u).toNat
 have hk0 : d.m * 2 ^ (d.e - u).toNat≠0:=by intro hc; rw [hc,Zan] at hbk; omega
 have hk1 : d.m * 2 ^ (d.e - u).toNat < 2 ^ (F.fr + 1):=Zaf.1 (by omega)
 have hku : u = F.low∨2 ^ F.fr≤d.m * 2 ^ (d.e - u).toNat:=by
  by_cases q : u = F.low
  ·exact Or.inl q
  ·right; exact Zbe.1 (by omega)
 have hbig:=Zna F (n:=d.m * 2 ^ (d.e - u).toNat) (u:=u) (by omega) (by omega) hku
 have hs : F.enc (d.m * 2 ^ (d.e - u).toNat) u < F.i0:=by
  rcases Nat.lt_or_ge (F.enc (d.m * 2 ^ (d.e - u).toNat) u) F.i0 with q | q
  ·exact q
  ·have:=hbig.2 q; omega
 refine ⟨F.enc (d.m * 2 ^ (d.e - u).toNat) u,?_,hs,?_⟩
 ·unfold Fm.enc; omega
 ·rw [Ztt F d.n hk0 hk1 (by omega) hku hs]
  have:=Zmn (n:=d.n) (e:=d.e) ho (d.e - u).toNat
  rw [show d.e - ((d.e - u).toNat : Int) = u by omega] at this
  exact this
theorem Zmh (F : Fm) {w : Nat} (hf : F.fin w) (h0 : (F.val w).m≠0) : F.fits (F.val w):=by
 have hF:=ZaU F
 have hwd : F.low + F.fr + F.most - 1 = F.wide:=by cases F <;> decide
 have hy : F.fc w < 2 ^ F.fr:=Nat.mod_lt _ (Nat.two_pow_pos _)
 unfold Fm.fin at hf
 unfold Fm.val at h0 ⊢
 by_cases hx : F.ex w = 0
 ·rw [if_pos hx] at h0 ⊢
  have hk : F.fc w≠0:=by intro hc; rw [hc] at h0; exact h0 rfl
  have hb:=Zaf.2 hy
  exact ZkZ hk (by rw [Nat.pow_succ]; omega) (Int.le_refl _) (by omega)
 ·rw [if_neg hx] at h0 ⊢
  have hk : 2 ^ F.fr + F.fc w≠0:=by have:=Nat.two_pow_pos F.fr; omega
  have hb : blen (2 ^ F.fr + F.fc w)≤F.fr + 1:=Zaf.2 (by rw [Nat.pow_succ]; omega)
  exact ZkZ hk (by rw [Nat.pow_succ]; omega) (by omega) (by omega)
theorem sterbenz (F : Fm) {x y : Dy} (fx : x.m≠0→F.fits x) (fy : y.m≠0→F.fits y) (hn : x.n = y.n) (h1 : cmpD (absD x) (shD (absD y) 1)≤0) (h2 : cmpD (absD y) (shD (absD x) 1)≤0) (h0 : (subD x y).m≠0) : F.fits (subD x y):=by
 obtain ⟨L,hL⟩ : ∃ L : Int,L = min x.e y.e:=⟨_,rfl⟩
 have lx : LoE x L:=Or.inr (by omega)
 have ly : LoE y L:=Or.inr (by omega)
 have sh : ∀ (d : Dy) (h : LoE d L),iv (shD (absD d) 1) L = 2 * ((d.m * 2 ^ (d.e - L).toNat : Nat) : Int)∧LoE (shD (absD d) 1) L:=fun d h => by
  unfold shD absD
  by_cases q : d.m = 0
  ·simp only [q,if_true]; exact ⟨by simp [iv],Or.inl rfl⟩
  ·simp only [q,if_false]
   have hl:=h.resolve_left q
   refine ⟨?_,Or.inr (by simp only; omega)⟩
   unfold iv
   simp only [Bool.false_eq_true,if_false,Int.one_mul]
   rw [show (d.e + 1 - L).toNat = (d.e - L).toNat + 1 by omega,Nat.pow_succ,← Nat.mul_assoc]; omega
 have la : ∀ (d : Dy) (h : LoE d L),LoE (absD d) L:=fun d h => h
 rw [Zns (la x lx) (sh y ly).2,ZxX,(sh y ly).1] at h1
 rw [Zns (la y ly) (sh x lx).2,ZxX,(sh x lx).1] at h2
 have hs:=ZdR lx (ZmX ly)
 rw [ZpI] at hs
 rw [show addD x (negD y) = subD x y from rfl] at hs
 obtain ⟨hs1,hs2⟩:=hs
 have hle:=hs2.resolve_left h0
 unfold iv at hs1
 rw [hn] at hs1
 generalize hD : (subD x y).m * 2 ^ ((subD x y).e - L).toNat = D at *
 generalize hX : x.m * 2 ^ (x.e - L).toNat = X at *
 generalize hY : y.m * 2 ^ (y.e - L).toNat = Y at *
 have g1 : (X : Int)≤2 * Y:=by
  unfold sgI at h1; split at h1
  ·omega
  ·split at h1 <;> omega
 have g2 : (Y : Int)≤2 * X:=by
  unfold sgI at h2; split at h2
  ·omega
  ·split at h2 <;> omega
 have dX : D≤X∧D≤Y:=by
  generalize (subD x y).n = p at *
  generalize y.n = q at *
  cases p <;> cases q <;> simp only [Bool.false_eq_true,if_false,if_true] at hs1 <;> omega
 have Dp : 0 < D:=by rw [← hD]; exact Nat.mul_pos (Nat.pos_of_ne_zero h0) (Nat.two_pow_pos _)
 have x0 : x.m≠0:=by intro hc; rw [hc,Nat.zero_mul] at hX; omega
 have y0 : y.m≠0:=by intro hc; rw [hc,Nat.zero_mul] at hY; omega
 obtain ⟨_,x1,x2,x3⟩:=fx x0
 obtain ⟨_,y1,y2,y3⟩:=fy y0
 have bD:=Zau h0 ((subD x y).e - L).toNat
 have bX:=Zau x0 (x.e - L).toNat
 have bY:=Zau y0 (y.e - L).toNat
 rw [hD] at bD
 rw [hX] at bX
 rw [hY] at bY
 have m1:=Zat dX.1
 have m2:=Zat dX.2
 exact ⟨h0,by omega,by omega,by omega⟩
theorem ZAU (F : Fm) (md : Int) {a b : Nat} (fa : F.fin a) (fb : F.fin b) :
  (F.cls a = 1∧F.cls b = 1∧subW F md a b = (F.sgn (F.ng a),0))∨subW F md a b = sumW F md (subD (F.vl a) (F.vl b)):=by
 have ra:=Zas.1 fa
 have rb:=Zas.1 fb
 unfold subW addP
 rw [if_neg (show ¬ (F.cls a = 5∨F.cls b = 5) by omega),if_neg (show ¬ (F.cls a = 4∧F.cls b = 4∧F.ng a≠!F.ng b) from fun h => by have:=h.1; omega),if_neg (show ¬ F.cls a = 4 by omega),if_neg (show ¬ F.cls b = 4 by omega)]
 by_cases h : F.cls a = 1∧F.cls b = 1∧F.ng a = !F.ng b
 ·left; rw [if_pos h]; exact ⟨h.1,h.2.1,rfl⟩
 ·right; rw [if_neg h]; rfl
theorem ZEv (F : Fm) {md : Int} {d : Dy} (hz : Nz d) (hf : d.m≠0→F.fits d) : ∃ w : Nat,sumW F md d = (w,0)∧w < 2 * F.sg∧F.fin w∧F.val w = d:=by
 have hi:=Zdr F
 unfold sumW
 by_cases h0 : d.m = 0
 ·rw [if_pos h0]
  refine ⟨F.sgn (decide (md = 5)),rfl,?_,?_,?_⟩
  ·unfold Fm.sgn; split <;> omega
  ·have:=Zcy (F:=F) (s:=0) (decide (md = 5)) hi.2.1
   rwa [Nat.zero_add] at this
  ·have:=Zll F (decide (md = 5))
   rw [Nat.zero_add] at this
   rw [this,hz.1 h0]
 ·rw [if_neg h0]
  obtain ⟨s,s0,s1,s2⟩:=ZAo F (hf h0) (hz.2 h0)
  have hr:=(ZmH F md d.n s1 s0).1
  rw [s2] at hr
  refine ⟨s + F.sgn d.n,hr,?_,Zcy d.n s1,s2⟩
  unfold Fm.sgn; split <;> omega
theorem near (F : Fm) {md : Int} {a b : Nat} (ha : a < 2 * F.sg) (hb : b < 2 * F.sg) (fa : F.fin a) (fb : F.fin b) (hn : (F.vl a).n = (F.vl b).n) (h1 : cmpD (absD (F.vl a)) (shD (absD (F.vl b)) 1)≤0) (h2 : cmpD (absD (F.vl b)) (shD (absD (F.vl a)) 1)≤0) :
  ∃ w : Nat,subW F md a b = (w,0)∧w < 2 * F.sg∧F.fin w∧F.val w = subD (F.vl a) (F.vl b):=by
 have hi:=Zdr F
 rcases ZAU F md fa fb with ⟨k1,k2,h⟩ | h
 ·rw [h]
  refine ⟨F.sgn (F.ng a),rfl,?_,?_,?_⟩
  ·unfold Fm.sgn; split <;> omega
  ·have:=Zcy (F:=F) (s:=0) (F.ng a) hi.2.1
   rwa [Nat.zero_add] at this
  ·have:=Zll F (F.ng a)
   rw [Nat.zero_add] at this
   rw [this,ZbY fa,ZbY fb,(ZeY ha k1).2,(ZeY hb k2).2]; rfl
 ·rw [h]
  refine ZEv F (ZgX (ZfQ F a) (Zpz (ZfQ F b))) (sterbenz F ?_ ?_ hn h1 h2)
  ·intro q; rw [ZbY fa] at q ⊢; exact Zmh F fa q
  ·intro q; rw [ZbY fb] at q ⊢; exact Zmh F fb q
def P2 (k : Nat) : Int:=((2 ^ k : Nat) : Int)
theorem Zod (k : Nat) : 0 < P2 k:=by unfold P2; have:=Nat.two_pow_pos k; omega
theorem ZDe (k : Nat) : P2 (k + 1) = 2 * P2 k:=by unfold P2; rw [Nat.pow_succ]; omega
theorem Zoc {i k : Nat} (h : i≤k) : P2 i ∣ P2 k:=by
 unfold P2; exact Int.natCast_dvd_natCast.2 (Nat.pow_dvd_pow 2 h)
def bl (n : Int) : Nat:=blen n.natAbs
theorem ZDr {n : Int} {k : Nat} : bl n≤k↔(n < P2 k∧-n < P2 k):=by
 unfold bl P2; rw [Zaf]; omega
theorem ZEV {n : Int} (h : n≠0) : P2 (bl n - 1)≤n∨P2 (bl n - 1)≤-n:=by
 unfold bl P2; have:=ZcH (n:=n.natAbs) (by omega); omega
theorem ZBn (n : Int) : bl (-n) = bl n:=by unfold bl; rw [Int.natAbs_neg]
theorem Zru {k : Nat} {x : Int} (h : P2 k ∣ x) (h1 : x < P2 k) (h2 : -x < P2 k) : x = 0:=by
 obtain ⟨q,rfl⟩:=h
 have hp:=Zod k
 rcases Int.lt_trichotomy q 0 with hq | hq | hq
 ·have:=Int.mul_le_mul_of_nonneg_left (show q≤-1 by omega) (Int.le_of_lt hp); omega
 ·rw [hq,Int.mul_zero]
 ·have:=Int.mul_le_mul_of_nonneg_left (show 1≤q by omega) (Int.le_of_lt hp); omega
def Rep (p : Nat) (n : Int) : Prop:=P2 (bl n - p) ∣ n
def Rn (p : Nat) (n r : Int) : Prop:=Rep p r∧P2 (bl n - p) ∣ r∧2 * (r - n)≤P2 (bl n - p)∧2 * (n - r)≤P2 (bl n - p)
theorem Rep.neg {p : Nat} {n : Int} (h : Rep p n) : Rep p (-n):=by
 unfold Rep at h ⊢; rw [ZBn]; exact Int.dvd_neg.2 h
theorem ZBi {p i : Nat} {n : Int} (h1 : P2 i ∣ n) (h2 : bl n≤p + i) : Rep p n:=Int.dvd_trans (Zoc (by omega)) h1
theorem ZzN (p : Nat) : Rep p 0:=Int.dvd_zero _
theorem Rn.neg {p : Nat} {n r : Int} (h : Rn p n r) : Rn p (-n) (-r):=by
 obtain ⟨h0,h1,h2,h3⟩:=h
 unfold Rn; rw [ZBn]
 exact ⟨h0.neg,Int.dvd_neg.2 h1,by omega,by omega⟩
theorem Rn.exact {p : Nat} {n r : Int} (h : Rn p n r) {i : Nat} (hi : P2 i ∣ n) (hk : bl n - p≤i) : r = n:=by
 obtain ⟨_,h1,h2,h3⟩:=h
 have hp:=Zod (bl n - p)
 have:=Zru (Int.dvd_sub h1 (Int.dvd_trans (Zoc hk) hi)) (by omega) (by omega)
 omega
theorem Rn.near {p : Nat} (hp : 1≤p) {n r c : Int} (h : Rn p n r) (hc : Rep p c) : r - n≤(c - n).natAbs∧n - r≤(c - n).natAbs:=by
 have key : ∀ c,P2 (bl n - p) ∣ c→r - n≤(c - n).natAbs∧n - r≤(c - n).natAbs:=fun c hc => by
  obtain ⟨_,h1,h2,h3⟩:=h
  by_cases q : r = c
  ·subst q; omega
  ·have hd:=Int.dvd_sub h1 hc
   have hs : ¬ (r - c < P2 (bl n - p)∧-(r - c) < P2 (bl n - p)):=fun q1 => q (by have:=Zru hd q1.1 q1.2; omega)
   omega
 by_cases q : bl n - p≤bl c - p
 ·exact key c (Int.dvd_trans (Zoc q) hc)
 ·have hb : bl c≤bl n - 1:=by omega
  have hn0 : n≠0:=by rintro rfl; have : bl 0 = 0:=rfl; omega
  have hc1:=ZDr.1 hb
  have hd : P2 (bl n - p) ∣ P2 (bl n - 1):=Zoc (by omega)
  have k1:=key _ hd
  have k2:=key _ (Int.dvd_neg.2 hd)
  have hpp:=Zod (bl n - 1)
  rcases ZEV hn0 with h4 | h4 <;> omega
theorem ZqD (d : Dy) (L : Int) : (iv d L = ((d.m * 2 ^ (d.e - L).toNat : Nat) : Int)∧d.n = false)∨(iv d L = -((d.m * 2 ^ (d.e - L).toNat : Nat) : Int)∧d.n = true):=by
 unfold iv; cases d.n <;> simp
theorem ZEW (d : Dy) (L : Int) : bl (iv d L) = blen (d.m * 2 ^ (d.e - L).toNat):=by
 unfold bl
 rcases ZqD d L with ⟨h,_⟩ | ⟨h,_⟩ <;> rw [h] <;> congr 1 <;> omega
theorem ZEh (F : Fm) {d : Dy} (h0 : d.m≠0) (hl : F.low≤d.e) (hv : (rndW F 1 d).2≠20) :
  (rndW F 1 d).1 < 2 * F.sg∧F.fin (rndW F 1 d).1∧Rn (F.fr + 1) (iv d F.low) (iv (F.val (rndW F 1 d).1) F.low)∧LoE (F.val (rndW F 1 d).1) F.low:=by
 have hF:=ZaU F
 obtain ⟨b1,b2,_,_⟩:=ZkH F (md:=1) h0
 obtain ⟨u,hu⟩ : ∃ u,u = F.eOf (d.e + blen d.m):=⟨_,rfl⟩
 have hue : u = max (d.e + blen d.m - F.fr - 1) F.low:=hu
 have hlo : F.low≤u:=by omega
 unfold rndW at hv ⊢
 simp only [if_neg h0] at hv ⊢
 rw [← hu] at b1 b2 hv ⊢
 have hbl : blen (d.m * 2 ^ (d.e - F.low).toNat) = blen d.m + (d.e - F.low).toNat:=Zau h0 _
 have hk : (u - F.low).toNat = blen (d.m * 2 ^ (d.e - F.low).toNat) - (F.fr + 1):=by omega
 obtain ⟨A,hA⟩ : ∃ A,A = d.m * 2 ^ (d.e - F.low).toNat:=⟨_,rfl⟩
 have hnear : 2 * ((((rnd 1 d.n d.m d.e u).1 * 2 ^ (u - F.low).toNat : Nat) : Int) - (A : Int))≤P2 (u - F.low).toNat∧2 * ((A : Int) - (((rnd 1 d.n d.m d.e u).1 * 2 ^ (u - F.low).toNat : Nat) : Int))≤P2 (u - F.low).toNat:=by
  by_cases q : u = F.low
  ·have : rnd 1 d.n d.m d.e u = (A,true):=by unfold rnd; rw [if_pos (by omega),hA,q]
   rw [this,q,Int.sub_self]
   have : P2 (0 : Int).toNat = 1:=rfl
   rw [this]
   simp only [Int.toNat_zero,Nat.pow_zero,Nat.mul_one]; omega
  ·obtain ⟨b,e,R⟩:=ZpR 1 d.n d.m (E:=d.e) (u:=u) (L:=F.low) hl (by omega)
   rw [← hA] at e R
   rw [e]
   obtain ⟨n1,n2⟩:=R.near (Or.inl rfl)
   unfold P2
   generalize 2 ^ (u - F.low).toNat = U at *
   generalize A / U = W at *
   have q2 : (2 * W + 1) * U = 2 * (W * U) + U:=by rw [Nat.add_mul,Nat.one_mul,Nat.mul_assoc]
   rw [q2] at n1 n2
   have lo:=R.lo
   have hi:=R.hi
   rw [Nat.add_mul,Nat.one_mul] at hi
   simp only [Nat.add_mul]
   generalize W * U = V at *
   cases b
   ·have:=n2 rfl; simp only [Bool.toNat_false,Nat.zero_mul]; omega
   ·have:=n1 rfl; simp only [Bool.toNat_true,Nat.one_mul]; omega
 generalize (rnd 1 d.n d.m d.e u).1 = K at *
 unfold wordOf at hv ⊢
 have hbig:=Zna F (n:=K) (u:=u) b1 hlo b2
 by_cases ov : F.wide < blen K + u
 ·rw [if_pos ov] at hv; exact absurd rfl hv
 ·rw [if_neg ov]
  have hi:=Zdr F
  have hs : F.enc K u < F.i0:=by
   rcases Nat.lt_or_ge (F.enc K u) F.i0 with q | q
   ·exact q
   ·exact absurd (hbig.2 q) ov
  obtain ⟨v1,v2,_⟩:=ZrE (F:=F) d.n hs
  rw [ZnJ F b1 hlo b2] at v1
  refine ⟨by unfold Fm.sgn; split <;> omega,Zcy d.n hs,?_,v2⟩
  have hd : P2 (u - F.low).toNat ∣ ((K * 2 ^ (u - F.low).toNat : Nat) : Int):=Int.natCast_dvd_natCast.2 ⟨K,Nat.mul_comm _ _⟩
  have hrep : Rep (F.fr + 1) ((K * 2 ^ (u - F.low).toNat : Nat) : Int):=by
   rcases Nat.lt_or_ge K (2 ^ (F.fr + 1)) with q | q
   ·refine ZBi hd ?_
    rw [ZDr]
    unfold P2
    rw [Nat.pow_add]
    have:=Nat.mul_lt_mul_of_pos_right q (Nat.two_pow_pos (u - F.low).toNat)
    generalize K * 2 ^ (u - F.low).toNat = X at *
    omega
   ·rw [show K = 2 ^ (F.fr + 1) by omega,← Nat.pow_add]
    refine ZBi (i:=(u - F.low).toNat + 1) (Zoc (by omega)) ?_
    rw [ZDr,show F.fr + 1 + ((u - F.low).toNat + 1) = (F.fr + 1 + (u - F.low).toNat) + 1 by omega,ZDe]
    have:=Zod (F.fr + 1 + (u - F.low).toNat)
    unfold P2 at *
    omega
  simp only [] at v1 ⊢
  rw [v1]
  unfold Rn
  rw [ZEW,← hk]
  rcases ZqD d F.low with ⟨e,en⟩ | ⟨e,en⟩
  ·rw [e,en,← hA]; simp only [Bool.false_eq_true,if_false,Int.one_mul]
   exact ⟨hrep,hd,hnear.1,hnear.2⟩
  ·rw [e,en,← hA]; simp only [if_true]
   rw [Int.neg_mul,Int.one_mul]
   exact ⟨hrep.neg,Int.dvd_neg.2 hd,by omega,by omega⟩
def Fm.X (F : Fm) (w : Nat) : Int:=iv (F.vl w) F.low
theorem ZbK {F : Fm} {w : Nat} (hf : F.fin w) : LoE (F.vl w) F.low:=by
 by_cases h : (F.vl w).m = 0
 ·exact Or.inl h
 ·right; rw [ZbY hf] at h ⊢; exact (Zmh F hf h).2.2.1
theorem Zti (p : Nat) : Rn p 0 0:=⟨ZzN p,Int.dvd_zero _,by have:=Zod (bl 0 - p); omega,by have:=Zod (bl 0 - p); omega⟩
theorem ZvH (F : Fm) {d : Dy} (hl : LoE d F.low) (hv : (sumW F 1 d).2≠20) : (sumW F 1 d).1 < 2 * F.sg∧F.fin (sumW F 1 d).1∧Rn (F.fr + 1) (iv d F.low) (F.X (sumW F 1 d).1):=by
 have hi:=Zdr F
 unfold sumW at hv ⊢
 by_cases h0 : d.m = 0
 ·rw [if_pos h0,ZaP h0]
  have e : F.sgn (decide ((1 : Int) = 5)) = 0:=rfl
  have hf : F.fin 0:=by have:=Zcy (F:=F) (s:=0) false hi.2.1; exact this
  refine ⟨by simp only [e]; omega,by simp only [e]; exact hf,?_⟩
  simp only [e]
  unfold Fm.X
  rw [ZbY hf]
  have:=Zll F false
  rw [show 0 + F.sgn false = 0 from rfl] at this
  rw [this,ZaP rfl]
  exact Zti _
 ·rw [if_neg h0] at hv ⊢
  obtain ⟨h1,h2,h3,h4⟩:=ZEh F h0 (hl.resolve_left h0) hv
  refine ⟨h1,h2,?_⟩
  unfold Fm.X; rw [ZbY h2]; exact h3
theorem Znp {F : Fm} {w : Nat} (hw : w < 2 * F.sg) (h : F.cls w = 1) : F.X w = 0:=by
 have hf : F.fin w:=Zas.2 (Or.inl h)
 unfold Fm.X
 rw [ZbY hf,(ZeY hw h).2,ZaP rfl]
theorem ZlF (F : Fm) (n : Bool) : F.sgn n < 2 * F.sg∧F.fin (F.sgn n)∧F.vl (F.sgn n) = ⟨false,0,0⟩:=by
 have hi:=Zdr F
 have h:=Zcy (F:=F) (s:=0) n hi.2.1
 have h2:=Zll F n
 rw [Nat.zero_add] at h h2
 exact ⟨by unfold Fm.sgn; split <;> omega,h,by rw [ZbY h,h2]⟩
theorem ZzO (F : Fm) (n : Bool) : F.X (F.sgn n) = 0:=by unfold Fm.X; rw [(ZlF F n).2.2,ZaP rfl]
theorem ZiN (F : Fm) (md : Int) {c c' : Int} {n n' : Bool} {d d' : Dy} (h1 : c = 1∨c = 2∨c = 3) (h2 : c' = 1∨c' = 2∨c' = 3) :
  addP F md c n d c' n' d' = if c = 1∧c' = 1∧n = n' then (F.sgn n,0) else sumW F md (addD d d'):=by
 unfold addP
 rw [if_neg (by omega),if_neg (by omega),if_neg (by omega),if_neg (by omega)]
theorem ZwK (F : Fm) {a b : Nat} (ha : a < 2 * F.sg) (hb : b < 2 * F.sg) (fa : F.fin a) (fb : F.fin b) (hv : (addW F 1 a b).2≠20) :
  (addW F 1 a b).1 < 2 * F.sg∧F.fin (addW F 1 a b).1∧Rn (F.fr + 1) (F.X a + F.X b) (F.X (addW F 1 a b).1):=by
 unfold addW at hv ⊢
 rw [ZiN F 1 (Zas.1 fa) (Zas.1 fb)] at hv ⊢
 by_cases q : F.cls a = 1∧F.cls b = 1∧F.ng a = F.ng b
 ·rw [if_pos q]
  refine ⟨(ZlF F _).1,(ZlF F _).2.1,?_⟩
  rw [Znp ha q.1,Znp hb q.2.1,ZzO]; exact Zti _
 ·rw [if_neg q] at hv ⊢
  obtain ⟨i1,i2⟩:=ZdR (ZbK fa) (ZbK fb)
  have:=ZvH F i2 hv
  rw [i1] at this; exact this
theorem Zzs (F : Fm) {a b : Nat} (ha : a < 2 * F.sg) (hb : b < 2 * F.sg) (fa : F.fin a) (fb : F.fin b) (hv : (subW F 1 a b).2≠20) :
  (subW F 1 a b).1 < 2 * F.sg∧F.fin (subW F 1 a b).1∧Rn (F.fr + 1) (F.X a - F.X b) (F.X (subW F 1 a b).1):=by
 unfold subW at hv ⊢
 rw [ZiN F 1 (Zas.1 fa) (Zas.1 fb)] at hv ⊢
 by_cases q : F.cls a = 1∧F.cls b = 1∧F.ng a = !F.ng b
 ·rw [if_pos q]
  refine ⟨(ZlF F _).1,(ZlF F _).2.1,?_⟩
  rw [Znp ha q.1,Znp hb q.2.1,ZzO]; exact Zti _
 ·rw [if_neg q] at hv ⊢
  obtain ⟨i1,i2⟩:=Zmk (ZbK fa) (ZbK fb)
  have:=ZvH F i2 hv
  rw [i1] at this; exact this
theorem ZkV {F : Fm} {w : Nat} (hw : w < 2 * F.sg) (hf : F.fin w) : F.cls w = 1↔(F.vl w).m = 0:=by
 rw [ZbY hf]
 constructor
 ·intro h; rw [(ZeY hw h).2]
 ·intro h
  have h1:=fun q => Zts hw q hf
  exact Decidable.byContradiction fun q => h1 q h
theorem ZnL (F : Fm) (md : Int) {c c' : Int} {n n' : Bool} {d d' : Dy} (h1 : c = 1∨c = 2∨c = 3) (h2 : c' = 1∨c' = 2∨c' = 3) :
  mulP F md c n d c' n' d' = if c = 1∨c' = 1 then (F.sgn (n != n'),0) else sumW F md (mulD d d'):=by
 unfold mulP
 rw [if_neg (by omega),if_neg (by omega),if_neg (by omega)]
theorem ZGi {a b : Dy} (ha : Nz a) (hb : Nz b) (h1 : a.m≠0) (h2 : b.m≠0) : mulD a b = ⟨a.n != b.n,a.m * b.m,a.e + b.e⟩:=by
 unfold mulD; exact Znf (Zte (ha.2 h1) (hb.2 h2))
theorem Zcj {a b : Dy} {K L : Int} (ha : LoE a K) (hb : LoE b L) : iv (mulD a b) (K + L) = iv a K * iv b L∧LoE (mulD a b) (K + L):=by
 by_cases h1 : a.m = 0
 ·have : mulD a b = ⟨false,0,0⟩:=ZjD (Or.inl h1)
  rw [this,ZaP rfl,ZaP h1,Int.zero_mul]; exact ⟨rfl,Or.inl rfl⟩
 ·by_cases h2 : b.m = 0
  ·have : mulD a b = ⟨false,0,0⟩:=ZjD (Or.inr h2)
   rw [this,ZaP rfl,ZaP h2,Int.mul_zero]; exact ⟨rfl,Or.inl rfl⟩
  ·have la:=ha.resolve_left h1
   have lb:=hb.resolve_left h2
   refine ⟨?_,Zdd (by omega)⟩
   unfold mulD
   rw [Zia (by omega),show (a.e + b.e - (K + L)).toNat = (a.e - K).toNat + (b.e - L).toNat by omega,Nat.pow_add]
   unfold iv
   have e : a.m * b.m * (2 ^ (a.e - K).toNat * 2 ^ (b.e - L).toNat) = (a.m * 2 ^ (a.e - K).toNat) * (b.m * 2 ^ (b.e - L).toNat):=by
    simp only [Nat.mul_assoc,Nat.mul_left_comm,Nat.mul_comm]
   rw [e,Int.natCast_mul]
   generalize ((a.m * 2 ^ (a.e - K).toNat : Nat) : Int) = x
   generalize ((b.m * 2 ^ (b.e - L).toNat : Nat) : Int) = y
   cases a.n <;> cases b.n <;> simp [Int.neg_mul,Int.mul_neg]
theorem ZAC (a b : Dy) : mulD a (negD b) = negD (mulD a b):=by
 by_cases h1 : a.m = 0
 ·rw [ZjD (Or.inl h1),ZjD (Or.inl h1)]; rfl
 ·by_cases h2 : b.m = 0
  ·rw [ZjD (Or.inr h2),ZjD (Or.inr (by unfold negD; rw [if_pos h2]; exact h2))]; rfl
  ·have h3 : a.m * b.m≠0:=by have:=Nat.mul_pos (Nat.pos_of_ne_zero h1) (Nat.pos_of_ne_zero h2); omega
   have e1 : negD b = ⟨!b.n,b.m,b.e⟩:=by unfold negD; rw [if_neg h2]
   unfold mulD
   rw [e1]
   simp only
   have e2:=Zmm (n:=a.n != b.n) h3 (a.e + b.e)
   unfold negD
   rw [if_neg e2,Zal h3,Zal h3]
   cases a.n <;> cases b.n <;> rfl
theorem ZAJ (F : Fm) {md : Int} {a b : Dy} (h0 : a.m≠0) (h1 : b.m≠0) (hf : (quoW F md a b).2 = 0∨(quoW F md a b).2 = 16) :
  ∃ (K N kk : Nat) (u : Int),F.fin (quoW F md a b).1∧(quoW F md a b).1 < 2 * F.sg∧F.val (quoW F md a b).1 = mkD (a.n != b.n) K u∧u + b.e = a.e - N + kk∧((quoW F md a b).2 = 16→u≤(a.e + blen a.m) - (b.e + blen b.m) + 1 - F.fr) ∧
   (a.m * 2 ^ N≤K * b.m * 2 ^ kk + b.m * 2 ^ kk)∧K * b.m * 2 ^ kk≤a.m * 2 ^ N + b.m * 2 ^ kk∧((quoW F md a b).2 = 0→a.m * 2 ^ N = K * b.m * 2 ^ kk):=by
 have hF:=ZaU F
 have hi:=Zdr F
 have hqb:=Zlb (k:=64) h0 h1
 unfold quoW at hf ⊢
 obtain ⟨N,hN⟩ : ∃ N,N = quoN 64 a.m b.m:=⟨_,rfl⟩
 rw [← hN] at hf hqb ⊢
 have hdm:=Nat.div_add_mod (a.m * 2 ^ N) b.m
 have hml:=Nat.mod_lt (a.m * 2 ^ N) (Nat.pos_of_ne_zero h1)
 have hbA : blen (a.m * 2 ^ N) = blen a.m + N:=Zau h0 N
 obtain ⟨A,hA⟩ : ∃ A,A = a.m * 2 ^ N:=⟨_,rfl⟩
 rw [← hA] at hdm hml hbA hqb hf ⊢
 obtain ⟨Q,hQ⟩ : ∃ Q,Q = A / b.m:=⟨_,rfl⟩
 rw [← hQ] at hdm hqb hf ⊢
 have hQb : blen Q + blen b.m≤blen A + 1:=by
  have q0 : Q≠0:=by rintro rfl; rw [Zan] at hqb; omega
  have e1:=ZcH q0
  have e2:=ZcH h1
  have e3:=Nat.mul_le_mul e2 e1
  rw [← Nat.pow_add] at e3
  have e4:=Zbw A
  have e5 : blen b.m - 1 + (blen Q - 1) < blen A:=by
   refine (Nat.pow_lt_pow_iff_right (a:=2) (by decide)).1 (Nat.lt_of_le_of_lt e3 (Nat.lt_of_le_of_lt ?_ e4))
   omega
  have:=Zff h1
  omega
 obtain ⟨E,hE⟩ : ∃ E : Int,E = a.e - b.e - (N : Nat):=⟨_,rfl⟩
 rw [← hE] at hf ⊢
 unfold sW at hf ⊢
 obtain ⟨u,hu⟩ : ∃ u,u = F.eOf (E + blen Q):=⟨_,rfl⟩
 have hue : u = max (E + blen Q - F.fr - 1) F.low:=hu
 rw [← hu] at hf ⊢
 obtain ⟨kk,hkk⟩ : ∃ kk,kk = (u - E).toNat:=⟨_,rfl⟩
 rw [← hkk] at hf ⊢
 have k0 : 0 < kk:=by omega
 -- the count of units
 obtain ⟨lost,hlost⟩ : ∃ l,l = !decide (A % b.m = 0):=⟨_,rfl⟩
 rw [← hlost] at hf ⊢
 obtain ⟨up,hup⟩ : ∃ up : Bool,(rdN md (a.n != b.n) Q lost kk).1 = Q / 2 ^ kk + up.toNat∧((rdN md (a.n != b.n) Q lost kk).2 = true→up = false∧Q % 2 ^ kk = 0∧A % b.m = 0):=by
  refine ⟨_,rfl,fun h => ?_⟩
  simp only [rdN,Bool.and_eq_true,Bool.not_eq_true'] at h
  obtain ⟨q1,_,_⟩:=Zkl Q k0
  rw [h.1,h.2]
  refine ⟨ZCW _ _ _,?_,?_⟩
  ·have h2:=h.2
   simp only [moreN,Bool.or_eq_false_iff,decide_eq_false_iff_not,ne_eq,Decidable.not_not] at h2
   rw [q1,h.1,h2.2]; rfl
  ·have h2:=h.2
   simp only [moreN,Bool.or_eq_false_iff] at h2
   have h3:=h2.1
   rw [hlost] at h3
   simpa using h3
 have hbd : (rdN md (a.n != b.n) Q lost kk).1≤2 ^ (F.fr + 1):=by
  rw [hup.1]
  have hb1 : blen (Q / 2 ^ kk)≤F.fr + 1:=by rw [Zak]; omega
  have:=Zaf.1 hb1
  cases up <;> simp <;> omega
 have hlo2 : u = F.low∨2 ^ F.fr≤(rdN md (a.n != b.n) Q lost kk).1:=by
  by_cases q : u = F.low
  ·exact Or.inl q
  ·right
   have : 2 ^ F.fr≤Q / 2 ^ kk:=Zbe.1 (by rw [Zak]; omega)
   rw [hup.1]; omega
 have hfine : blen (rdN md (a.n != b.n) Q lost (blen Q - F.fr - 1)).1≤F.fr + 2:=by
  have hb1 : blen (Q / 2 ^ (blen Q - F.fr - 1))≤F.fr + 1:=by rw [Zak]; omega
  have h2:=Zaf.1 hb1
  have hb : ∀ b : Bool,b.toNat≤1:=fun b => by cases b <;> decide
  rw [Zaf,show F.fr + 2 = (F.fr + 1) + 1 by omega,Nat.pow_succ]
  simp only [rdN]
  have:=hb (upB md (a.n != b.n) (decide (Q / 2 ^ (blen Q - F.fr - 1) % 2 = 1)) (halfN Q (blen Q - F.fr - 1)) (moreN Q lost (blen Q - F.fr - 1)))
  have h3:=Nat.two_pow_pos (F.fr + 1)
  omega
 generalize hK : (rdN md (a.n != b.n) Q lost kk).1 = K at *
 generalize (rdN md (a.n != b.n) Q lost (blen Q - F.fr - 1)).1 = fine at *
 generalize (rdN md (a.n != b.n) Q lost kk).2 = ex at *
 unfold wordOf at hf ⊢
 have hbig:=Zna F (n:=K) (u:=u) hbd (by omega) hlo2
 by_cases ov : F.wide < blen K + u
 ·rw [if_pos ov] at hf; simp only at hf; omega
 ·rw [if_neg ov] at hf ⊢
  have hs : F.enc K u < F.i0:=by
   rcases Nat.lt_or_ge (F.enc K u) F.i0 with q | q
   ·exact q
   ·exact absurd (hbig.2 q) ov
  obtain ⟨v1,v2,v3⟩:=ZrE (F:=F) (a.n != b.n) hs
  rw [ZnJ F hbd (by omega) hlo2] at v1
  have hval : F.val (F.enc K u + F.sgn (a.n != b.n)) = mkD (a.n != b.n) K u:=ZrV v3 (ZlO _ _ _) v2 (Zdd (by omega)) (by rw [v1,Zia (by omega)])
  -- S
  have hS1 : Q * b.m = Q / 2 ^ kk * b.m * 2 ^ kk + Q % 2 ^ kk * b.m:=by
   have e:=Nat.div_add_mod Q (2 ^ kk)
   conv => lhs; rw [← e]
   rw [Nat.add_mul]
   congr 1
   rw [Nat.mul_assoc,Nat.mul_comm]
  have hS2 : Q % 2 ^ kk * b.m + A % b.m < b.m * 2 ^ kk:=by
   have e:=Nat.mod_lt Q (Nat.two_pow_pos kk)
   have:=Nat.mul_le_mul_left b.m (show Q % 2 ^ kk + 1≤2 ^ kk from e)
   rw [Nat.mul_add,Nat.mul_one,Nat.mul_comm b.m (Q % 2 ^ kk)] at this
   omega
  have hdm' : Q * b.m + A % b.m = A:=by rw [Nat.mul_comm]; exact hdm
  have hKb : K * b.m * 2 ^ kk = Q / 2 ^ kk * b.m * 2 ^ kk + up.toNat * (b.m * 2 ^ kk):=by rw [hup.1,Nat.add_mul,Nat.add_mul,Nat.mul_assoc up.toNat]
  refine ⟨K,N,kk,u,Zcy _ hs,by unfold Fm.sgn; split <;> omega,hval,by omega,?_,?_,?_,?_⟩
  ·intro hf
   simp only at hf
   have : ¬ ((blen fine : Int) + (E + blen Q - F.fr - 1) < F.low + F.fr + 1):=by
    intro q; rw [if_pos q] at hf; split at hf <;> omega
   omega
  ·rw [← hA,hKb]
   generalize Q / 2 ^ kk * b.m * 2 ^ kk = X at *
   generalize b.m * 2 ^ kk = Y at *
   cases up <;> simp <;> omega
  ·rw [← hA,hKb]
   generalize Q / 2 ^ kk * b.m * 2 ^ kk = X at *
   generalize b.m * 2 ^ kk = Y at *
   cases up <;> simp <;> omega
  ·intro h
   have hx : ex = true:=by
    cases ex
    ·simp only [Bool.false_eq_true,if_false] at h; split at h <;> simp at h
    ·rfl
   obtain ⟨x1,x2,x3⟩:=hup.2 hx
   rw [← hA,hKb,x1,← hdm',x3,hS1,x2]; simp
theorem units {K kk : Nat} {u E low L : Int} (h1 : u = E + kk) (h2 : L≤E) (h3 : low≤u) (h4 : L≤low) : K * 2 ^ (u - low).toNat * 2 ^ (low - L).toNat = K * 2 ^ kk * 2 ^ (E - L).toNat:=by
 rw [Nat.mul_assoc,← Nat.pow_add,Nat.mul_assoc,← Nat.pow_add]; congr 2; omega
theorem ZlJ (x : Int) : 0≤x * x:=by
 rcases Int.le_total 0 x with h | h
 ·exact Int.mul_nonneg h h
 ·have:=Int.mul_nonneg (Int.neg_nonneg.2 h) (Int.neg_nonneg.2 h)
  rwa [Int.neg_mul_neg] at this
theorem ZHN {x y : Int} (hy : 0≤y) (h : x * x≤y * y) : x≤y:=by
 rcases Int.lt_or_le y x with q | q
 ·have:=Int.mul_lt_mul_of_pos_left q (show 0 < x by omega)
  have h2:=Int.mul_le_mul_of_nonneg_right (Int.le_of_lt q) hy
  omega
 ·exact q
def NB (x y n : Int) : Prop:=0≤n∧x * x + y * y≤n * n
theorem NB.mono {x y a b : Int} (h : NB x y a) (hab : a≤b) : NB x y b :=
 ⟨Int.le_trans h.1 hab,Int.le_trans h.2 (Int.mul_le_mul hab hab h.1 (Int.le_trans h.1 hab))⟩
theorem NB.add {x y z w a b : Int} (h : NB x y a) (k : NB z w b) : NB (x + z) (y + w) (a + b):=by
 obtain ⟨a0,h1⟩:=h
 obtain ⟨b0,k1⟩:=k
 refine ⟨by omega,?_⟩
 have e : (x * z + y * w) * (x * z + y * w)≤(a * b) * (a * b):=by
  have c1 : (x * z + y * w) * (x * z + y * w) + (x * w - y * z) * (x * w - y * z) = (x * x + y * y) * (z * z + w * w):=by grind
  have c2:=ZlJ (x * w - y * z)
  have c3:=Int.mul_le_mul h1 k1 (by have:=ZlJ z; have:=ZlJ w; omega) (by have:=ZlJ a; omega)
  have c4 : a * a * (b * b) = (a * b) * (a * b):=by grind
  omega
 have f:=ZHN (Int.mul_nonneg a0 b0) e
 have g : (x + z) * (x + z) + (y + w) * (y + w) = (x * x + y * y) + (z * z + w * w) + 2 * (x * z + y * w):=by grind
 have g2 : (a + b) * (a + b) = a * a + b * b + 2 * (a * b):=by grind
 omega
theorem NB.mul {x y z w a b : Int} (h : NB x y a) (k : NB z w b) : NB (x * z - y * w) (x * w + y * z) (a * b):=by
 obtain ⟨a0,h1⟩:=h
 obtain ⟨b0,k1⟩:=k
 refine ⟨Int.mul_nonneg a0 b0,?_⟩
 have c1 : (x * z - y * w) * (x * z - y * w) + (x * w + y * z) * (x * w + y * z) = (x * x + y * y) * (z * z + w * w):=by grind
 have c3:=Int.mul_le_mul h1 k1 (by have:=ZlJ z; have:=ZlJ w; omega) (by have:=ZlJ a; omega)
 have c4 : a * a * (b * b) = (a * b) * (a * b):=by grind
 omega
theorem NB.scale {x y a k : Int} (h : NB x y a) (hk : 0≤k) : NB (k * x) (k * y) (k * a):=by
 refine ⟨Int.mul_nonneg hk h.1,?_⟩
 have e:=Int.mul_le_mul_of_nonneg_left h.2 (ZlJ k)
 have e1 : k * k * (x * x + y * y) = k * x * (k * x) + k * y * (k * y):=by grind
 have e2 : k * k * (a * a) = k * a * (k * a):=by grind
 omega
theorem NB.parts {x y x' y' a : Int} (h : NB x' y' a) (hx : x.natAbs≤x'.natAbs) (hy : y.natAbs≤y'.natAbs) : NB x y a:=by
 refine ⟨h.1,Int.le_trans ?_ h.2⟩
 have s : ∀ u v : Int,u.natAbs≤v.natAbs→u * u≤v * v:=fun u v q => by
  have:=Nat.mul_le_mul q q
  rw [← Int.natAbs_mul_self,← Int.natAbs_mul_self (a:=v)]
  exact Int.ofNat_le.2 this
 have:=s x x' hx
 have:=s y y' hy
 omega
theorem ZFL (F : Fm) {a b : Nat} {L : Int} (la : LoE (F.vl a) L) (lb : LoE (F.vl b) L) : iv (sqD F a b) (2 * L) = iv (F.vl a) L * iv (F.vl a) L + iv (F.vl b) L * iv (F.vl b) L:=by
 obtain ⟨p1,p2⟩:=Zcj la la
 obtain ⟨q1,q2⟩:=Zcj lb lb
 unfold sqD
 rw [show 2 * L = L + L by omega,(ZdR p2 q2).1,p1,q1]
theorem ZfM (J : Al G T g) (F : Fm) {a b : Nat} (ha : a < 2 * F.sg) (hb : b < 2 * F.sg) : run G T 250 [.int .u8 F.u,zA a b] = some (.bool (decide (F.fin a∧F.fin b))):=by
 rw [Zab G T J.J.ZfM]
 have f1:=ZhH J F (Zbx ha)
 have f2:=ZhH J F (Zbx hb)
 simp only [zA]
 by_cases p : F.fin a
 ·rw [decide_eq_true p] at f1
  by_cases q : F.fin b
  ·rw [decide_eq_true q] at f2
   rw [decide_eq_true (show F.fin a∧F.fin b from ⟨p,q⟩)]
   repeat' (first|simp (maxSteps:=9^7) only [seval,exC,Zcn,f1,f2]|simp (maxSteps:=9^7) (disch:=first|with_reducible assumption|omega) only [dxB]|(simp only [kdB];split)|(simp only [kvB];split))
  ·rw [decide_eq_false q] at f2
   rw [decide_eq_false (show ¬ (F.fin a∧F.fin b) from fun h => q h.2)]
   repeat' (first|simp (maxSteps:=9^7) only [seval,exC,Zcn,f1,f2]|simp (maxSteps:=9^7) (disch:=first|with_reducible assumption|omega) only [dxB]|(simp only [kdB];split)|(simp only [kvB];split))
 ·rw [decide_eq_false p] at f1
  rw [decide_eq_false (show ¬ (F.fin a∧F.fin b) from fun h => p h.1)]
  repeat' (first|simp (maxSteps:=9^7) only [seval,exC,Zcn,f1]|simp (maxSteps:=9^7) (disch:=first|with_reducible assumption|omega) only [dxB]|(simp only [kdB];split)|(simp only [kvB];split))
def zrA (p q : Nat × Nat) : AV:=.agg [.int .u64 (p.1 : Int),.int .u64 (q.1 : Int),.int .u8 (p.2 : Int),.int .u8 (q.2 : Int)]
def numA (z : Bool) (x : Dy × Bool) : AV:=.agg [.bool x.1.n,D z (dl x.1.m),.int .i64 x.1.e,.bool x.2]
def tm (F : Fm) (a b : Nat) (minus : Bool) : Dy × Bool:=(if minus then negD (mulD (F.vl a) (F.vl b)) else mulD (F.vl a) (F.vl b),(F.ng a != F.ng b) != minus)
def zsg (md : Int) (x y : Dy × Bool) : Bool:=if x.1.m = 0∧y.1.m = 0∧x.2 = y.2 then x.2 else decide (md = 5)
def ptQ (F : Fm) (md : Int) (d : Dy) (n : Bool) (by' : Dy) : Nat × Nat:=if d.m = 0 then (F.sgn n,0) else quoW F md d by'
theorem ZfP (F : Fm) (a b : Nat) : Bd (mulD (F.vl a) (F.vl b)) 2400:=by
 have hF:=ZaU F
 by_cases h1 : (F.vl a).m = 0
 ·rw [ZjD (Or.inl h1)]; exact ⟨by simp only [Zan]; omega,by simp,by simp⟩
 ·by_cases h2 : (F.vl b).m = 0
  ·rw [ZjD (Or.inr h2)]; exact ⟨by simp only [Zan]; omega,by simp,by simp⟩
  ·have fa : F.fin a:=by
    by_cases h : F.fin a
    ·exact h
    ·exfalso; apply h1; unfold Fm.vl; rw [if_neg h]
   have fb : F.fin b:=by
    by_cases h : F.fin b
    ·exact h
    ·exfalso; apply h2; unfold Fm.vl; rw [if_neg h]
   have e1:=Zmh F fa (by rw [← ZbY fa]; exact h1)
   have e2:=Zmh F fb (by rw [← ZbY fb]; exact h2)
   rw [← ZbY fa] at e1
   rw [← ZbY fb] at e2
   obtain ⟨_,a1,a2,a3⟩:=e1
   obtain ⟨_,b1,b2,b3⟩:=e2
   have hb:=Zxg a1 b1
   rw [ZGi (ZfQ F a) (ZfQ F b) h1 h2]
   exact ⟨by simp only; omega,by simp only; omega,by simp only; omega⟩
theorem ZgW (F : Fm) (a b : Nat) (s : Bool) : Bd (tm F a b s).1 2400∧Nz (tm F a b s).1:=by
 unfold tm; cases s
 ·exact ⟨ZfP F a b,Zci _ _⟩
 ·exact ⟨(ZfP F a b).neg,Zpz (Zci _ _)⟩
theorem ZjA (J : Al G T g) (F : Fm) {w : Nat} (hw : w < 2 * F.sg) :
  ∃ z,run G T 296 [.int .u8 F.u,.int .u64 (w : Int)] = some (numA z (F.vl w,F.ng w)):=by
 apply exP
 rw [Zab G T J.J.ZjA]
 obtain ⟨z,k,h1⟩:=Zfe J F hw
 have h2:=Zfd J F hw
 generalize F.vl w = v at *
 generalize F.ng w = n at *
 simp only [fldA,DyA,A3,numA] at *
 repeat' (first|simp (maxSteps:=9^7) only [seval,exC,ZfX,h1,h2]|simp (maxSteps:=9^7) (disch:=first|with_reducible assumption|omega) only [dxB]|(simp only [kdB];split)|(simp only [kvB];split))
 all_goals exact ⟨_,rfl,z,rfl⟩
theorem Zbd (J : Al G T g) {z y n k : Bool} {a b : Dy} (na : Nz a) (nb : Nz b) (ha : Bd a 16384) (hb : Bd b 16384) :
  ∃ z',run G T 278 [numA z (a,n),numA y (b,k)] = some (numA z' (mulD a b,n != k)):=by
 apply exP
 rw [Zab G T J.J.Zbd]
 obtain ⟨z',h1⟩:=Zmc J (z:=z) (y:=y) ha hb (ZbO na (ha.mono (by decide))) (ZbO nb (hb.mono (by decide)))
 generalize mulD a b = d at *
 have hne : (n != k) = !decide (n = k):=by cases n <;> cases k <;> rfl
 rw [hne]
 simp only [DyA,A3,numA] at *
 repeat' (first|simp (maxSteps:=9^7) only [seval,exC,ZcL,h1]|simp (maxSteps:=9^7) (disch:=first|with_reducible assumption|omega) only [dxB]|(simp only [kdB];split)|(simp only [kvB];split))
 all_goals exact ⟨_,rfl,z',rfl⟩
theorem ZeA (J : Al G T g) {z n : Bool} {a : Dy} (na : Nz a) (ha : Bd a 131072) :
  ∃ z',run G T 279 [numA z (a,n)] = some (numA z' (negD a,!n)):=by
 apply exP
 rw [Zab G T J.J.ZeA]
 obtain ⟨z',h1⟩:=Zqp J (z:=z) (d:=a) (ZbO na ha)
 generalize negD a = d at *
 simp only [DyA,A3,numA] at *
 repeat' (first|simp (maxSteps:=9^7) only [seval,exC,ZcK,h1]|simp (maxSteps:=9^7) (disch:=first|with_reducible assumption|omega) only [dxB]|(simp only [kdB];split)|(simp only [kvB];split))
 all_goals exact ⟨_,rfl,z',rfl⟩
theorem Zfv (J : Al G T g) {z y n k : Bool} {a b : Dy} {md : Int} (na : Nz a) (nb : Nz b) (ha : Bd a 16384) (hb : Bd b 16384) :
  ∃ z' s,run G T 295 [numA z (a,n),numA y (b,k),.int .u8 md] = some (numA z' (addD a b,s))∧((addD a b).m = 0→s = zsg md (a,n) (b,k)):=by
 rw [Zab G T J.J.Zfv]
 obtain ⟨z',h1⟩:=Zmb J (z:=z) (y:=y) ha hb (ZbO na (ha.mono (by decide))) (ZbO nb (hb.mono (by decide)))
 have md':=ZbO (ZgX na nb) ((Zfz ha hb).mono (by decide))
 have ma':=ZbO na (ha.mono (by decide))
 have s1:=Zez J (n:=(addD a b).n) (z:=z') (Zay (addD a b).m) (e:=(addD a b).e)
 rw [ZjP md'] at s1
 have s2:=Zez J (n:=a.n) (z:=z) (Zay a.m) (e:=a.e)
 rw [ZjP ma'] at s2
 have hz : (addD a b).m = 0→a.m = 0→b.m = 0:=by intro h ha0; unfold addD at h; rw [if_pos ha0] at h; exact h
 unfold zsg
 generalize addD a b = d at *
 clear md' ma' na nb ha hb
 obtain ⟨an,am,ae⟩:=a
 obtain ⟨dn,dm,de⟩:=d
 simp only [DyA,A3,numA] at *
 by_cases d0 : dm = 0
 ·rw [if_pos d0] at s1
  by_cases a0 : am = 0
  ·rw [if_pos a0] at s2
   have b0:=hz d0 a0
   by_cases e : n = k
   ·refine ⟨z',n,?_,fun _ => by rw [if_pos ⟨a0,b0,e⟩]⟩
    subst e
    repeat' (first|simp (maxSteps:=9^7) only [seval,exC,Zbi,h1,s1,s2]|simp (maxSteps:=9^7) (disch:=first|with_reducible assumption|omega) only [dxB]|(simp only [kdB];split)|(simp only [kvB];split))
   ·refine ⟨z',decide (md = 5),?_,fun _ => by rw [if_neg (fun h => e h.2.2)]⟩
    repeat' (first|simp (maxSteps:=9^7) only [seval,exC,Zbi,h1,s1,s2,e]|simp (maxSteps:=9^7) (disch:=first|with_reducible assumption|omega) only [dxB]|(simp only [kdB];split)|(simp only [kvB];split))
  ·rw [if_neg a0] at s2
   refine ⟨z',decide (md = 5),?_,fun _ => by rw [if_neg (fun h => a0 h.1)]⟩
   cases an <;> (simp only [Bool.false_eq_true,if_false,if_true] at s2; repeat' (first|simp (maxSteps:=9^7) only [seval,exC,Zbi,h1,s1,s2]|simp (maxSteps:=9^7) (disch:=first|with_reducible assumption|omega) only [dxB]|(simp only [kdB];split)|(simp only [kvB];split)))
 ·rw [if_neg d0] at s1
  refine ⟨z',dn,?_,fun h => absurd h d0⟩
  cases dn <;> (simp only [Bool.false_eq_true,if_false,if_true] at s1; repeat' (first|simp (maxSteps:=9^7) only [seval,exC,Zbi,h1,s1]|simp (maxSteps:=9^7) (disch:=first|with_reducible assumption|omega) only [dxB]|(simp only [kdB];split)|(simp only [kvB];split)))
end Go.Cv
