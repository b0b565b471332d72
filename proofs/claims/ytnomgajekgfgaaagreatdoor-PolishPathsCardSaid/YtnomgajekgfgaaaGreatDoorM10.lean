/-
 A part of the proof of the statements of this seat (texts that the law's own text leans on): no condition.
-/
import Derived.Test.YtnomgajekgfgaaaGreatDoorM9
import Derived.Test.YtnomgajekgfgaaaGreatDoorM8
import Derived.Test.YtnomgajekgfgaaaGreatDoorM5
set_option linter.unusedVariables false
set_option linter.unusedSimpArgs false
namespace Go.Cv
variable {G : Nat→Option (List AV)} {T : Tbl} {g : Nat}
theorem Bd.neg {d : Dy} {K : Nat} (h : Bd d K) : Bd (negD d) K:=by
 obtain ⟨h1,h2,h3⟩:=h
 unfold negD; split
 ·exact ⟨h1,h2,h3⟩
 ·exact ⟨h1,h2,h3⟩
theorem Zkd (J : Al G T g) {z y : Bool} {a b : Dy} (ha : Bd a 34359738368) (hb : Bd b 34359738368) :
  ∃ z',run G T 70 [DyA z a,DyA y b] = some (DyA z' (subD a b)):=by
 apply exP
 rw [Zab G T J.C.Zkd]
 obtain ⟨z1,hz1⟩:=Zef J (z:=z) (y:=y) ha hb.neg
 have hz2:=Zoj J (z:=y) (d:=b)
 simp only [DyA,A3] at *
 repeat' (first | simp only [seval,exC,ZkG,hz1,hz2] | simp (disch:=omega) only [dxB])
 exact Post.some ⟨z1,rfl⟩
theorem Zcn (J : Al G T g) {n z : Bool} {l : List Nat} (hd : Dg l) {e : Int} : run G T 22 [A3 n (D z l) e] = some (.int .i64 (if mayD n l e = false∨l.length = 0 then 0 else if n then -1 else 1)):=by
 rw [Zab G T J.C.Zcn]
 have hm:=Zda J n z hd e
 simp only [DyA,A3] at *
 cases h : mayD n l e
 all_goals
  rw [h] at hm
  by_cases h2 : l.length = 0
  all_goals
   cases n
   all_goals
    repeat' (first | simp only [seval,exC,Zkn,hm] | simp (disch:=omega) only [dxB])
    all_goals simp [h2]
theorem Zog (J : Al G T g) {z y : Bool} {a b : Dy} (ha : Bd a 34359738368) (hb : Bd b 34359738368) :
  run G T 69 [DyA z a,DyA y b] = some (.int .i64 (cmpD a b)):=by
 rw [Zab G T J.C.Zog]
 obtain ⟨z1,hz1⟩:=Zkd J (z:=z) (y:=y) ha hb
 have s1:=Zbi J (z:=z) (d:=a)
 have s2:=Zbi J (z:=y) (d:=b)
 have s3:=Zbi J (z:=z1) (d:=subD a b)
 have l1:=Zaa a.m
 have l2:=Zaa b.m
 obtain ⟨a1,a2,a3⟩:=ha
 obtain ⟨b1,b2,b3⟩:=hb
 have t1:=ZfI J (z:=z) (d:=a) (by omega) (by omega)
 have t2:=ZfI J (z:=y) (d:=b) (by omega) (by omega)
 simp only [DyA,A3] at *
 repeat' (first|simp (maxSteps:=9^7) only [seval,exC,ZkE,hz1,s1,s2,s3,t1,t2]|simp (maxSteps:=9^7) (disch:=first|with_reducible assumption|omega) only [dxB]|(simp only [kdB];split)|(simp only [kvB];split))
 all_goals simp_all [cmpD]
 all_goals omega
inductive Fm where
 | s | d
 deriving DecidableEq
def Fm.u : Fm→Int | .s => 1 | .d => 2
def Fm.fr : Fm→Nat | .s => 23 | .d => 52
def Fm.low : Fm→Int | .s => -149 | .d => -1074
def Fm.wide : Fm→Int | .s => 128 | .d => 1024
def Fm.most : Fm→Nat | .s => 255 | .d => 2047
def Fm.sg : Fm→Nat | .s => 2147483648 | .d => 9223372036854775808
theorem ZJz {f : Int} (h : f = 1∨f = 2) : ∃ F : Fm,f = F.u:=by
 rcases h with rfl | rfl
 ·exact ⟨.s,rfl⟩
 ·exact ⟨.d,rfl⟩
theorem ZpM (J : Al G T g) {f : Int} : run G T 27 [.int .u8 f] = some (.bool (decide (f = 1∨f = 2))):=by
 rw [Zab G T J.D.ZpM]
 repeat' (first|simp (maxSteps:=9^7) only [seval,exC,Zmo]|simp (maxSteps:=9^7) (disch:=first|with_reducible assumption|omega) only [dxB]|(simp only [kdB];split)|(simp only [kvB];split))
 all_goals simp_all
theorem ZdO (J : Al G T g) (F : Fm) : run G T 31 [.int .u8 F.u] = some (.int .i64 (F.fr : Int)):=by
 rw [Zab G T J.D.ZdO]
 cases F <;> (simp only [Fm.u,Fm.fr]; repeat' (first | simp only [seval,exC,ZiQ] | simp (disch:=omega) only [dxB]))
theorem ZlR (J : Al G T g) (F : Fm) : run G T 33 [.int .u8 F.u] = some (.int .i64 F.low):=by
 rw [Zab G T J.D.ZlR]
 cases F <;> (simp only [Fm.u,Fm.low]; repeat' (first | simp only [seval,exC,ZkJ] | simp (disch:=omega) only [dxB]))
theorem ZmF (J : Al G T g) (F : Fm) : run G T 35 [.int .u8 F.u] = some (.int .i64 F.wide):=by
 rw [Zab G T J.D.ZmF]
 cases F <;> (simp only [Fm.u,Fm.wide]; repeat' (first | simp only [seval,exC,ZiU] | simp (disch:=omega) only [dxB]))
theorem ZhP (J : Al G T g) (F : Fm) : run G T 63 [.int .u8 F.u] = some (.int .i64 (F.most : Int)):=by
 rw [Zab G T J.D.ZhP]
 cases F <;> (simp only [Fm.u,Fm.most]; repeat' (first | simp only [seval,exC,ZiS] | simp (disch:=omega) only [dxB]))
theorem ZhQ (J : Al G T g) (F : Fm) : run G T 73 [.int .u8 F.u] = some (.int .u64 (F.sg : Int)):=by
 rw [Zab G T J.D.ZhQ]
 cases F <;> (simp only [Fm.u,Fm.sg]; repeat' (first | simp only [seval,exC,ZiT] | simp (disch:=omega) only [dxB]))
def Fm.sgn (F : Fm) (n : Bool) : Nat:=if n then F.sg else 0
def fldA (n : Bool) (x w : Int) : AV:=.agg [.bool n,.int .i64 x,.int .u64 w]
theorem ZeN (J : Al G T g) (F : Fm) {n : Bool} {x w : Nat} (hx : x≤F.most) (hw : w < 2 ^ F.fr∨x = 0∧w < F.sg) :
  run G T 62 [.int .u8 F.u,fldA n x w] = some (.int .u64 ((x * 2 ^ F.fr + w + F.sgn n : Nat) : Int)):=by
 rw [Zab G T J.D.ZeN]
 have h1:=ZdO (G:=G) J F
 have h2:=ZhQ (G:=G) J F
 cases F <;> cases n <;> (
  simp only [Fm.u,Fm.fr,Fm.sg,Fm.most,fldA,Fm.sgn] at *
  repeat' (first | simp only [seval,exC,ZiR,h1,h2] | simp (disch:=omega) only [dxB])
  all_goals (refine ZmO ?_; omega))
def Fm.inf (F : Fm) (n : Bool) : Nat:=F.most * 2 ^ F.fr + F.sgn n
theorem ZgU (J : Al G T g) (F : Fm) {n : Bool} : run G T 30 [.int .u8 F.u,.bool n] = some (.int .u64 ((F.inf n : Nat) : Int)):=by
 rw [Zab G T J.D.ZgU]
 have h1:=ZhP (G:=G) J F
 have h2:=ZeN (G:=G) J F (n:=n) (x:=F.most) (w:=0) (Nat.le_refl _) (Or.inl (Nat.two_pow_pos _))
 simp only [fldA,cast0] at h2
 repeat' (first | simp only [seval,exC,ZkI,h1,h2] | simp (disch:=omega) only [dxB])
 all_goals simp [Fm.inf]
theorem Zbe (J : Al G T g) (F : Fm) {n : Bool} {w : Nat} : run G T 38 [.int .u8 F.u,.int .u64 (w : Int),.bool n] = some (.int .u64 ((w % F.sg + F.sgn n : Nat) : Int)):=by
 rw [Zab G T J.D.Zbe]
 have h2:=ZhQ (G:=G) J F
 cases F <;> cases n <;> (
  simp only [Fm.u,Fm.sg,Fm.sgn] at *
  repeat' (first | simp only [seval,exC,Zgp,h2] | simp (disch:=omega) only [dxB])
  all_goals (refine ZmO ?_; omega))
def shA (F : Fm) : AV:=.agg [.int .i64 (F.fr : Int),.int .i64 (F.most : Int),.int .u64 (F.sg : Int)]
def sh0 : AV:=.agg [.int .i64 0,.int .i64 0,.int .u64 0]
theorem or64z {x : Int} (h : 0≤x∧x < 18446744073709551616) : orI .u64 0 x = x:=by
 obtain ⟨n,rfl⟩:=Int.eq_ofNat_of_zero_le h.1
 have:=or64 (a:=0) (b:=n) (by decide) (by omega)
 rw [cast0] at this; rw [this]; simp
theorem ZzC {x : Int} (h : 0≤x∧x < 2147483648) : orI .u64 x 2147483648 = x + 2147483648:=by
 obtain ⟨n,rfl⟩:=Int.eq_ofNat_of_zero_le h.1
 have:=or64 (a:=n) (b:=2147483648) (by omega) (by decide)
 rw [Int.cast_ofNat_Int] at this; rw [this]
 have e:=ZmX (c:=n) (x:=1) (s:=31) (by omega)
 rw [Nat.one_mul] at e
 rw [show (2147483648 : Nat) = 2 ^ 31 from rfl,e]; omega
theorem ZzD {x : Int} (h : 0≤x∧x < 9223372036854775808) : orI .u64 x 9223372036854775808 = x + 9223372036854775808:=by
 obtain ⟨n,rfl⟩:=Int.eq_ofNat_of_zero_le h.1
 have:=or64 (a:=n) (b:=9223372036854775808) (by omega) (by decide)
 rw [Int.cast_ofNat_Int] at this; rw [this]
 have e:=ZmX (c:=n) (x:=1) (s:=63) (by omega)
 rw [Nat.one_mul] at e
 rw [show (9223372036854775808 : Nat) = 2 ^ 63 from rfl,e]; omega
theorem Zhd (J : Al G T g) (F : Fm) : run G T 115 [.int .u8 F.u] = some (.tup [shA F,.bool true]):=by
 rw [Zab G T J.D.Zhd]
 cases F <;> (simp only [shA,Fm.u,Fm.fr,Fm.most,Fm.sg,Int.cast_ofNat_Int]; repeat' (first | simp only [seval,exC,Zed] | simp (disch:=omega) only [dxB]))
theorem Zrt (J : Al G T g) {f : Int} (h : ¬ (f = 1∨f = 2)) : run G T 115 [.int .u8 f] = some (.tup [sh0,.bool false]):=by
 rw [Zab G T J.D.Zhd]
 have h1 : ¬ f = 1:=by omega
 have h2 : ¬ f = 2:=by omega
 simp only [sh0]; repeat' (first | simp only [seval,exC,Zed] | simp (disch:=omega) only [dxB])
theorem Zpl (J : Al G T g) (F : Fm) : run G T 95 [.int .u8 F.u,.nil] = some (.tup [shA F,.int .i64 0]):=by
 rw [Zab G T J.D.word_open]
 have h1:=Zhd (G:=G) J F
 have hl : ∀ (e : Env) (h : Heap),evL G T ZcP e h = kS G T (evL G T ZbY (keepE [4,6,18,19,20] e) h) ZcP:=fun e h => Zae G T (c:=ZcP) rfl e h
 simp only [shA] at *
 repeat' (first | simp only [seval,exC,Zdv,h1,hl,ZbY] | simp (disch:=omega) only [dxB])
theorem ZuZ (J : Al G T g) {f : Int} (h : ¬ (f = 1∨f = 2)) {v : AV} : run G T 95 [.int .u8 f,v] = some (.tup [sh0,.int .i64 4]):=by
 rw [Zab G T J.D.word_open]
 have h1:=Zrt (G:=G) J h
 simp only [sh0] at *
 repeat' (first | simp only [seval,exC,Zdv,h1] | simp (disch:=omega) only [dxB])
theorem ZoF (J : Al G T g) (F : Fm) : run G T 60 [shA F] = some (.int .u64 ((F.most * 2 ^ F.fr : Nat) : Int)):=by
 rw [Zab G T J.D.word_shape_inf]
 cases F <;> (simp only [shA,Fm.u,Fm.fr,Fm.most,Fm.sg,Int.cast_ofNat_Int]; repeat' (first | simp only [seval,exC,Zen] | simp (disch:=omega) only [dxB]))
theorem Zxr (J : Al G T g) (F : Fm) : run G T 96 [shA F] = some (.int .i64 F.low):=by
 rw [Zab G T J.D.word_shape_low]
 cases F <;> (simp only [shA,Fm.u,Fm.fr,Fm.most,Fm.sg,Fm.low,Int.cast_ofNat_Int]; repeat' (first | simp only [seval,exC,Zeo] | simp (disch:=omega) only [dxB]))
theorem ZxY (J : Al G T g) (F : Fm) {n : Bool} {w : Nat} (hw : w < F.sg) :
  run G T 97 [shA F,fldA n 0 w] = some (.int .u64 ((w + F.sgn n : Nat) : Int)):=by
 rw [Zab G T J.D.word_shape_join]
 cases F <;> cases n <;> (
  simp only [shA,Fm.u,Fm.fr,Fm.sg,Fm.most,fldA,Fm.sgn,Int.cast_ofNat_Int] at *
  repeat' (first | simp only [seval,exC,ZdI ] | simp (disch:=omega) only [dxB,or64z,ZzC,ZzD])
  all_goals (refine ZmO ?_; try simp))
theorem Zya (J : Al G T g) (F : Fm) : run G T 98 [shA F] = some (.int .u64 0):=by
 rw [Zab G T J.D.word_Zero_1]
 simp only [shA]; repeat' (first | simp only [seval,exC,ZhE] | simp (disch:=omega) only [dxB])
theorem ZrI (J : Al G T g) (F : Fm) : run G T 59 [shA F] = some (.int .u64 ((F.most * 2 ^ F.fr - 1 : Nat) : Int)):=by
 rw [Zab G T J.D.word_Greatest_1]
 have h:=ZoF (G:=G) J F
 cases F <;> (simp only [shA,Fm.u,Fm.fr,Fm.most,Fm.sg,Int.cast_ofNat_Int,Nat.reducePow,Nat.reduceMul] at *; repeat' (first | simp only [seval,exC,ZdH,h] | simp (disch:=omega) only [dxB]))
theorem Zgd (J : Al G T g) (F : Fm) {n : Bool} {k x : Nat} (hk : run G T k [shA F] = some (.int .u64 (x : Int))) (hx : x < F.sg) :
  run G T 58 [.int .u8 F.u,.bool n,.fn k []] = some (.tup [.int .u64 ((x + F.sgn n : Nat) : Int),.int .i64 0]):=by
 rw [Zab G T J.D.Zgd]
 have h1:=Zpl (G:=G) J F
 cases F <;> cases n <;> (
  simp only [shA,Fm.u,Fm.fr,Fm.sg,Fm.most,Fm.sgn,Int.cast_ofNat_Int] at *
  repeat' (first | simp only [seval,exC,ZgP,h1,hk ] | simp (disch:=omega) only [dxB,ZzC,ZzD])
  all_goals (refine congrArg (fun x : Int => some (AV.tup [.int .u64 x,.int .i64 0])) ?_; try simp))
theorem Zmg (J : Al G T g) (F : Fm) {n : Bool} : run G T 57 [.int .u8 F.u,.bool n] = some (.tup [.int .u64 ((F.sgn n : Nat) : Int),.int .i64 0]):=by
 rw [Zab G T J.D.Zmg]
 have h:=Zgd (G:=G) J F (n:=n) (k:=98) (x:=0) (Zya J F) (by cases F <;> decide)
 rw [Nat.zero_add] at h
 repeat' (first | simp only [seval,exC,ZkV,h] | simp (disch:=omega) only [dxB])
theorem Zjp (J : Al G T g) (F : Fm) {n : Bool} : run G T 26 [.int .u8 F.u,.bool n] = some (.tup [.int .u64 ((F.inf n : Nat) : Int),.int .i64 0]):=by
 rw [Zab G T J.D.Zjp]
 have h:=Zgd (G:=G) J F (n:=n) (k:=60) (ZoF J F) (by cases F <;> decide)
 repeat' (first | simp only [seval,exC,Zmr,h] | simp (disch:=omega) only [dxB])
 rfl
theorem Zlm (J : Al G T g) (F : Fm) {n : Bool} : run G T 25 [.int .u8 F.u,.bool n] = some (.tup [.int .u64 ((F.inf n - 1 : Nat) : Int),.int .i64 0]):=by
 rw [Zab G T J.D.Zlm]
 have h:=Zgd (G:=G) J F (n:=n) (k:=59) (ZrI J F) (by cases F <;> decide)
 repeat' (first | simp only [seval,exC,Zfy,h] | simp (disch:=omega) only [dxB])
 cases F <;> cases n <;> rfl
def Fm.unit (F : Fm) (d : Dy) : Int:=max (d.e + blen d.m - F.fr - 1) F.low
def Fm.fits (F : Fm) (d : Dy) : Prop:=d.m≠0∧blen d.m≤F.fr + 1∧F.low≤d.e∧d.e + blen d.m≤F.wide
def Fm.enc (F : Fm) (n : Nat) (u : Int) : Nat:=(u - F.low).toNat * 2 ^ F.fr + n
theorem ZsA {F : Fm} {d : Dy} (h : F.fits d) : F.unit d≤d.e∧F.low≤F.unit d∧blen (d.m * 2 ^ (d.e - F.unit d).toNat)≤F.fr + 1∧(F.unit d = F.low∨2 ^ F.fr≤d.m * 2 ^ (d.e - F.unit d).toNat)∧(F.unit d - F.low).toNat + 1 < F.most:=by
 obtain ⟨h0,h1,h2,h3⟩:=h
 have e1 : F.unit d≤d.e:=by unfold Fm.unit; omega
 have e2 : F.low≤F.unit d:=by unfold Fm.unit; omega
 have hb:=Zav h0 (d.e - F.unit d).toNat
 refine ⟨e1,e2,?_,?_,?_⟩
 ·rw [hb]; unfold Fm.unit at *; omega
 ·by_cases hu : F.unit d = F.low
  ·exact Or.inl hu
  ·right
   apply Zbn.1
   rw [hb]; unfold Fm.unit at *; omega
 ·cases F <;> simp only [Fm.unit,Fm.fr,Fm.low,Fm.wide,Fm.most] at * <;> omega
theorem Zwn {F : Fm} {d : Dy} (h : F.fits d) : F.enc (d.m * 2 ^ (d.e - F.unit d).toNat) (F.unit d) < F.most * 2 ^ F.fr:=by
 obtain ⟨h1,h2,h3,h4,h5⟩:=ZsA h
 have:=Zaf.1 h3
 rw [Nat.pow_succ] at this
 unfold Fm.enc
 have h6 : ((F.unit d - F.low).toNat + 2) * 2 ^ F.fr≤F.most * 2 ^ F.fr:=Nat.mul_le_mul_right _ (by omega)
 rw [Nat.add_mul] at h6
 omega
theorem ZHJ {k : Int} {n : Nat} (h : k.toNat≤n) : min k.toNat n = k.toNat:=Nat.min_eq_left h
theorem ZFT {m : Nat} {k : Int} (hk : k.toNat≤64) (h : m * 2 ^ k.toNat < 18446744073709551616) : IntKind.u64.wrap ((m : Int) * 2 ^ (min k.toNat 64)) = ((m * 2 ^ k.toNat : Nat) : Int):=by
 rw [ZHJ hk,Zbb,← Int.natCast_mul,Zjq]
 omega
theorem Zts (J : Al G T g) (F : Fm) {z : Bool} {d : Dy} (hm : mayD d.n (dl d.m) d.e = true) (hf : F.fits d) :
  run G T 56 [.int .u8 F.u,DyA z d] = some (.tup [.int .u64 ((F.enc (d.m * 2 ^ (d.e - F.unit d).toNat) (F.unit d) + F.sgn d.n : Nat) : Int),.int .i64 0]):=by
 rw [Zab G T J.D.Zts]
 have hl:=ZsA hf
 have he:=Zwn hf
 obtain ⟨n,m,e⟩:=d
 obtain ⟨hf0,hf1,hf2,hf3⟩:=hf
 obtain ⟨hl1,hl2,hl3,hl4,hl5⟩:=hl
 simp only at *
 have hmb:=Zaf.1 hf1
 have h1:=Zpl (G:=G) J F
 have h2:=Zda (G:=G) J n z (Zao m) e
 rw [hm] at h2
 have m64 : m < 18446744073709551616:=Nat.lt_of_lt_of_le hmb (by cases F <;> decide)
 have h3:=ZqK J (z:=z) m64
 have h4:=ZhI J m64
 have h5:=Zxr (G:=G) J F
 have hx:=Zaf.1 hl3
 have hb64 : F.most * 2 ^ F.fr≤F.sg:=by cases F <;> decide
 have h6:=ZxY (G:=G) J F (n:=n) (w:=F.enc (m * 2 ^ (e - F.unit ⟨n,m,e⟩).toNat) (F.unit ⟨n,m,e⟩)) (by omega)
 have hu : max (e + blen m - F.fr - 1) F.low = F.unit ⟨n,m,e⟩:=rfl
 have hw1 : e≤1024:=by cases F <;> simp only [Fm.wide] at hf3 <;> omega
 generalize hU : F.unit ⟨n,m,e⟩ = u at *
 have hX : m * 2 ^ (e - u).toNat < 18446744073709551616:=Nat.lt_of_lt_of_le hx (by cases F <;> decide)
 have hs:=fun (hk : (e - u).toNat≤64) => ZFT hk hX
 generalize m * 2 ^ (e - u).toNat = X at *
 have hne : ¬ (m : Int) = 0:=by omega
 cases F
 ·simp only [Fm.u,Fm.fr,Fm.sg,Fm.most,Fm.low,Fm.wide,Fm.enc,shA,fldA,DyA,A3,Int.cast_ofNat_Int,Nat.reducePow] at *
  have hs':=hs (by omega)
  rw [Zjq] at hs'
  have hW : ((u - -149) % 18446744073709551616 * 8388608 % 18446744073709551616 + X) % 18446744073709551616 = (((u - -149).toNat * 8388608 + X : Nat) : Int):=by omega
  repeat' (first | simp only [seval,exC,ZjS,h1,h2,h3,h4,h5,hu,hs',hW,h6 ] | simp (disch:=omega) only [dxB,hu])
 ·simp only [Fm.u,Fm.fr,Fm.sg,Fm.most,Fm.low,Fm.wide,Fm.enc,shA,fldA,DyA,A3,Int.cast_ofNat_Int,Nat.reducePow] at *
  have hs':=hs (by omega)
  rw [Zjq] at hs'
  have hW : ((u - -1074) % 18446744073709551616 * 4503599627370496 % 18446744073709551616 + X) % 18446744073709551616 = (((u - -1074).toNat * 4503599627370496 + X : Nat) : Int):=by omega
  repeat' (first | simp only [seval,exC,ZjS,h1,h2,h3,h4,h5,hu,hs',hW,h6 ] | simp (disch:=omega) only [dxB,hu])
theorem ZuX (J : Al G T g) (F : Fm) {z : Bool} : run G T 56 [.int .u8 F.u,DyA z ⟨false,0,0⟩] = some (.tup [.int .u64 0,.int .i64 0]):=by
 rw [Zab G T J.D.Zts]
 have h1:=Zpl (G:=G) J F
 have h2:=Zda (G:=G) J false z (Zao 0) 0
 rw [show mayD false (dl 0) 0 = true by rw [Zai]; rfl] at h2
 have h3:=ZqK J (z:=z) (a:=0) (by decide)
 have h4:=ZhI J (x:=0) (by decide)
 rw [Zag] at h4
 cases F <;> (
  simp only [shA,DyA,A3,cast0,Fm.u,Fm.fr,Fm.sg,Fm.most,Int.cast_ofNat_Int] at *
  repeat' (first | simp only [seval,exC,ZjS,h1,h2,h3,h4] | simp (disch:=omega) only [dxB]))
theorem ZGQ {X : Nat} (h : X < 18446744073709551616) (h1 : ¬ (1 : Int) < (dl X).length) : dg (dl X) 0 = X:=by
 have h2 : (dl X).length≤1:=by omega
 have h3:=(Zcl (n:=X) (k:=1)).1 h2
 rw [Zpw (Zao X),ZaE]; simp at h3 ⊢; omega
theorem ZGS {X : Nat} (h : X < 18446744073709551616) : X = dg (dl X) 0 + dg (dl X) 1 * 4294967296:=by
 rw [Zpw (Zao X),Zpw (Zao X),ZaE]; simp; omega
set_option maxHeartbeats 2000000 in
theorem ZpN (J : Al G T g) (F : Fm) {z : Bool} {d : Dy} (hf : F.fits d) :
  run G T 36 [.int .u8 F.u,DyA z d] = some (.tup [.int .u64 ((F.enc (d.m * 2 ^ (d.e - F.unit d).toNat) (F.unit d) + F.sgn d.n : Nat) : Int),.bool true]):=by
 rw [Zab G T J.D.ZpN]
 have hl:=ZsA hf
 have he:=Zwn hf
 obtain ⟨n,m,e⟩:=d
 obtain ⟨hf0,hf1,hf2,hf3⟩:=hf
 obtain ⟨hl1,hl2,hl3,hl4,hl5⟩:=hl
 simp only at *
 have hmb:=Zaf.1 hf1
 have hfr : F.fr≤52:=by cases F <;> decide
 have hlo : -1074≤F.low:=by cases F <;> decide
 have hw1 : e≤1024:=by cases F <;> simp only [Fm.wide] at hf3 <;> omega
 have hdl:=Zaa m
 have h1:=Zbi J (z:=z) (d:=⟨n,m,e⟩)
 have hs : ¬ sgnD ⟨n,m,e⟩ = 0:=by simp only [sgnD,if_neg hf0]; split <;> decide
 have h2:=ZfI J (z:=z) (d:=⟨n,m,e⟩) (by simp only; omega) (by simp only; omega)
 simp only [topD,if_neg hf0] at h2
 have h3:=ZmF (G:=G) J F
 have h4:=ZlR (G:=G) J F
 have h5:=ZdO (G:=G) J F
 have h6:=Zcp J (z:=z) (a:=m) (by omega)
 obtain ⟨z1,h7⟩:=ZfH J (z:=z) (a:=m) (n:=(e - F.unit ⟨n,m,e⟩).toNat) (by omega) (by omega)
 have hu : F.unit ⟨n,m,e⟩ = max (e + blen m - F.fr - 1) F.low:=rfl
 generalize hU : F.unit ⟨n,m,e⟩ = u at *
 have hx:=Zaf.1 hl3
 have hX : m * 2 ^ (e - u).toNat < 18446744073709551616:=Nat.lt_of_lt_of_le hx (by cases F <;> decide)
 have hX0 : 0 < m * 2 ^ (e - u).toNat:=Nat.mul_pos (by omega) (Nat.two_pow_pos _)
 rw [Int.toNat_of_nonneg (by omega)] at h7
 generalize m * 2 ^ (e - u).toNat = X at *
 have hj:=@ZeN G T g J F n
 have hlen:=@Zan X
 have d0:=ZGQ hX
 have d1:=ZGS hX
 have g0:=(Zao X).dg 0
 have g1:=(Zao X).dg 1
 have hc : ¬ (1 : Int) < (dl X).length→dg (dl X) 1 = 0:=fun h => ZkW (by omega)
 cases F
 ·simp only [Fm.u,Fm.fr,Fm.sg,Fm.most,Fm.low,Fm.wide,Fm.enc,fldA,DyA,A3,Int.cast_ofNat_Int,Nat.reducePow] at *
  have m0 : ((dg (dl X) 0 : Nat) : Int) % 18446744073709551616 = dg (dl X) 0:=by omega
  have m1 : ((dg (dl X) 1 : Nat) : Int) % 18446744073709551616 = dg (dl X) 1:=by omega
  have m2 : (((dg (dl X) 0 : Nat) : Int) + ((dg (dl X) 1 : Nat) : Int) * 4294967296 % 18446744073709551616) % 18446744073709551616 = X:=by omega
  by_cases hp : 8388608≤X
  ·have q1 : ((X : Int) - 8388608) % 18446744073709551616 = ((X - 8388608 : Nat) : Int):=by omega
   by_cases hA : e + blen m - 23 - 1 < -149
   ·obtain rfl : u = -149:=by omega
    have j3:=@hj 1 (X - 8388608) (by decide) (Or.inl (by omega))
    rw [show ((1 : Nat) : Int) = 1 from rfl] at j3
    repeat' (first|simp (maxSteps:=9^7) only [seval,exC,ZbL,h1,hs,h2,h3,h4,h5,h6,h7,m0,m1,m2,q1,j3 ]|simp (maxSteps:=9^7) (disch:=first|with_reducible assumption|omega) only [dxB,d0]|(simp only [kdB];split)|(simp only [kvB];split))
    all_goals (refine Zhh ?_; omega)
   ·have hu' : e + blen m - 23 - 1 = u:=by omega
    have q2 : u - -149 + 1 = (((u + 150).toNat : Nat) : Int):=by omega
    have j3:=@hj (u + 150).toNat (X - 8388608) (by omega) (Or.inl (by omega))
    repeat' (first|simp (maxSteps:=9^7) only [seval,exC,ZbL,h1,hs,h2,h3,h4,h5,h6,h7,hu',m0,m1,m2,q1,q2,j3 ]|simp (maxSteps:=9^7) (disch:=first|with_reducible assumption|omega) only [dxB,d0]|(simp only [kdB];split)|(simp only [kvB];split))
    all_goals (refine Zhh ?_; omega)
  ·have j3:=@hj 0 X (by decide) (Or.inl (by omega))
   rw [cast0] at j3
   obtain rfl : u = -149:=by omega
   by_cases hA : e + blen m - 23 - 1 < -149
   ·repeat' (first|simp (maxSteps:=9^7) only [seval,exC,ZbL,h1,hs,h2,h3,h4,h5,h6,h7,m0,m1,m2,j3 ]|simp (maxSteps:=9^7) (disch:=first|with_reducible assumption|omega) only [dxB,d0]|(simp only [kdB];split)|(simp only [kvB];split))
    all_goals (refine Zhh ?_; omega)
   ·have hu' : e + blen m - 23 - 1 = -149:=by omega
    repeat' (first|simp (maxSteps:=9^7) only [seval,exC,ZbL,h1,hs,h2,h3,h4,h5,h6,h7,hu',m0,m1,m2,j3 ]|simp (maxSteps:=9^7) (disch:=first|with_reducible assumption|omega) only [dxB,d0]|(simp only [kdB];split)|(simp only [kvB];split))
    all_goals (refine Zhh ?_; omega)
 ·simp only [Fm.u,Fm.fr,Fm.sg,Fm.most,Fm.low,Fm.wide,Fm.enc,fldA,DyA,A3,Int.cast_ofNat_Int,Nat.reducePow] at *
  have m0 : ((dg (dl X) 0 : Nat) : Int) % 18446744073709551616 = dg (dl X) 0:=by omega
  have m1 : ((dg (dl X) 1 : Nat) : Int) % 18446744073709551616 = dg (dl X) 1:=by omega
  have m2 : (((dg (dl X) 0 : Nat) : Int) + ((dg (dl X) 1 : Nat) : Int) * 4294967296 % 18446744073709551616) % 18446744073709551616 = X:=by omega
  by_cases hp : 4503599627370496≤X
  ·have q1 : ((X : Int) - 4503599627370496) % 18446744073709551616 = ((X - 4503599627370496 : Nat) : Int):=by omega
   by_cases hA : e + blen m - 52 - 1 < -1074
   ·obtain rfl : u = -1074:=by omega
    have j3:=@hj 1 (X - 4503599627370496) (by decide) (Or.inl (by omega))
    rw [show ((1 : Nat) : Int) = 1 from rfl] at j3
    repeat' (first|simp (maxSteps:=9^7) only [seval,exC,ZbL,h1,hs,h2,h3,h4,h5,h6,h7,m0,m1,m2,q1,j3 ]|simp (maxSteps:=9^7) (disch:=first|with_reducible assumption|omega) only [dxB,d0]|(simp only [kdB];split)|(simp only [kvB];split))
    all_goals (refine Zhh ?_; omega)
   ·have hu' : e + blen m - 52 - 1 = u:=by omega
    have q2 : u - -1074 + 1 = (((u + 1075).toNat : Nat) : Int):=by omega
    have j3:=@hj (u + 1075).toNat (X - 4503599627370496) (by omega) (Or.inl (by omega))
    repeat' (first|simp (maxSteps:=9^7) only [seval,exC,ZbL,h1,hs,h2,h3,h4,h5,h6,h7,hu',m0,m1,m2,q1,q2,j3 ]|simp (maxSteps:=9^7) (disch:=first|with_reducible assumption|omega) only [dxB,d0]|(simp only [kdB];split)|(simp only [kvB];split))
    all_goals (refine Zhh ?_; omega)
  ·have j3:=@hj 0 X (by decide) (Or.inl (by omega))
   rw [cast0] at j3
   obtain rfl : u = -1074:=by omega
   by_cases hA : e + blen m - 52 - 1 < -1074
   ·repeat' (first|simp (maxSteps:=9^7) only [seval,exC,ZbL,h1,hs,h2,h3,h4,h5,h6,h7,m0,m1,m2,j3 ]|simp (maxSteps:=9^7) (disch:=first|with_reducible assumption|omega) only [dxB,d0]|(simp only [kdB];split)|(simp only [kvB];split))
    all_goals (refine Zhh ?_; omega)
   ·have hu' : e + blen m - 52 - 1 = -1074:=by omega
    repeat' (first|simp (maxSteps:=9^7) only [seval,exC,ZbL,h1,hs,h2,h3,h4,h5,h6,h7,hu',m0,m1,m2,j3 ]|simp (maxSteps:=9^7) (disch:=first|with_reducible assumption|omega) only [dxB,d0]|(simp only [kdB];split)|(simp only [kvB];split))
    all_goals (refine Zhh ?_; omega)
def upB (md : Int) (neg odd half more : Bool) : Bool :=
 if md = 1 then half && (more || odd) else if md = 2 then half else if md = 4 then !neg && (half || more) else if md = 5 then neg && (half || more) else false
def halfN (M k : Nat) : Bool:=decide (M / 2 ^ (k - 1) % 2 = 1)
def moreN (M : Nat) (s : Bool) (k : Nat) : Bool:=s || decide (M % 2 ^ (k - 1)≠0)
def rdN (md : Int) (neg : Bool) (M : Nat) (s : Bool) (k : Nat) : Nat × Bool :=
 (M / 2 ^ k + (upB md neg (decide (M / 2 ^ k % 2 = 1)) (halfN M k) (moreN M s k)).toNat,!halfN M k && !moreN M s k)
def rnd (md : Int) (neg : Bool) (M : Nat) (E u : Int) : Nat × Bool :=
 if u≤E then (M * 2 ^ (E - u).toNat,true) else rdN md neg M false (u - E).toNat
theorem Znk (M j k : Nat) : (M % 2 ^ (j + k) = 0)↔(M % 2 ^ j = 0∧M / 2 ^ j % 2 ^ k = 0):=by
 rw [Nat.pow_add,Nat.mod_mul]
 have hp : 0 < 2 ^ j:=Nat.two_pow_pos j
 constructor
 ·intro h
  have h1 : M % 2 ^ j = 0:=by omega
  refine ⟨h1,?_⟩
  rw [h1,Nat.zero_add] at h
  rcases Nat.mul_eq_zero.1 h with h2 | h2
  ·omega
  ·exact h2
 ·rintro ⟨h1,h2⟩; rw [h1,h2]; rfl
theorem ZqT (md : Int) (neg : Bool) (M : Nat) (s : Bool) (j k : Nat) (hk : 0 < k) :
  rdN md neg (M / 2 ^ j) (s || decide (M % 2 ^ j≠0)) k = rdN md neg M s (j + k):=by
 obtain ⟨i,rfl⟩ : ∃ i,k = i + 1:=⟨k - 1,by omega⟩
 have e1 : ∀ i,M / 2 ^ j / 2 ^ i = M / 2 ^ (j + i):=fun i => by rw [Nat.div_div_eq_div_mul,← Nat.pow_add]
 have e2 : halfN (M / 2 ^ j) (i + 1) = halfN M (j + (i + 1)):=by
  simp only [halfN,e1]
  rw [show j + (i + 1 - 1) = j + (i + 1) - 1 by omega]
 have e3 : moreN (M / 2 ^ j) (s || decide (M % 2 ^ j≠0)) (i + 1) = moreN M s (j + (i + 1)):=by
  simp only [moreN]
  rw [show j + (i + 1) - 1 = j + i by omega,show i + 1 - 1 = i by omega,Bool.or_assoc]
  congr 1
  have:=Znk M j i
  rw [Bool.eq_iff_iff]
  simp only [Bool.or_eq_true,decide_eq_true_eq,ne_eq,this]
  by_cases h : M % 2 ^ j = 0 <;> simp [h]
 simp only [rdN,e1,e2,e3]
theorem ZkX {M j k : Nat} (h : k≤j) : M * 2 ^ j / 2 ^ k = M * 2 ^ (j - k):=by
 obtain ⟨i,rfl⟩ : ∃ i,j = k + i:=⟨j - k,by omega⟩
 rw [Nat.pow_add,Nat.mul_comm (2 ^ k),← Nat.mul_assoc,Nat.mul_div_cancel _ (Nat.two_pow_pos k),show k + i - k = i by omega]
theorem Znl {M j k : Nat} (h : k≤j) : M * 2 ^ j % 2 ^ k = 0:=by
 obtain ⟨i,rfl⟩ : ∃ i,j = k + i:=⟨j - k,by omega⟩
 rw [Nat.pow_add,Nat.mul_comm (2 ^ k),← Nat.mul_assoc]; exact Nat.mul_mod_left ..
theorem Zjc {M j k : Nat} (h : j≤k) : M * 2 ^ j / 2 ^ k = M / 2 ^ (k - j):=by
 obtain ⟨i,rfl⟩ : ∃ i,k = j + i:=⟨k - j,by omega⟩
 rw [Nat.pow_add,← Nat.div_div_eq_div_mul,Nat.mul_div_cancel _ (Nat.two_pow_pos j),show j + i - j = i by omega]
theorem ZlJ {M j k : Nat} (h : j≤k) : M * 2 ^ j % 2 ^ k = M % 2 ^ (k - j) * 2 ^ j:=by
 obtain ⟨i,rfl⟩ : ∃ i,k = j + i:=⟨k - j,by omega⟩
 rw [Nat.pow_add,Nat.mul_comm (2 ^ j),Nat.mul_mod_mul_right,show j + i - j = i by omega]
theorem ZDv (md : Int) (neg : Bool) (M j k : Nat) (hk : 0 < k) :
  rdN md neg (M * 2 ^ j) false k = if k≤j then (M * 2 ^ (j - k),true) else rdN md neg M false (k - j):=by
 obtain ⟨i,rfl⟩ : ∃ i,k = i + 1:=⟨k - 1,by omega⟩
 by_cases h : i + 1≤j
 ·rw [if_pos h]
  have e1 : halfN (M * 2 ^ j) (i + 1) = false:=by
   simp only [halfN,Nat.add_sub_cancel]
   rw [ZkX (by omega),show j - i = (j - i - 1) + 1 by omega,Nat.pow_succ,← Nat.mul_assoc,Nat.mul_mod_left]; rfl
  have e2 : moreN (M * 2 ^ j) false (i + 1) = false:=by
   simp only [moreN,Nat.add_sub_cancel,Bool.false_or]
   rw [Znl (by omega)]; rfl
  have e3 : ∀ a b,upB md a b false false = false:=by intro a b; simp [upB]
  simp only [rdN,e1,e2,e3,ZkX h]; rfl
 ·rw [if_neg h]
  have e1 : halfN (M * 2 ^ j) (i + 1) = halfN M (i + 1 - j):=by
   simp only [halfN]
   rw [Zjc (by omega),show i + 1 - 1 - j = i + 1 - j - 1 by omega]
  have e2 : moreN (M * 2 ^ j) false (i + 1) = moreN M false (i + 1 - j):=by
   simp only [moreN,Bool.false_or]
   rw [ZlJ (by omega),show i + 1 - 1 - j = i + 1 - j - 1 by omega]
   have hp:=Nat.two_pow_pos j
   congr 1
   apply propext
   constructor
   ·intro h1 h2; apply h1; rw [h2,Nat.zero_mul]
   ·intro h1 h2
    rcases Nat.mul_eq_zero.1 h2 with h3 | h3
    ·exact h1 h3
    ·omega
  simp only [rdN,e1,e2,Zjc (show j≤i + 1 by omega)]
theorem ZpK (md : Int) (neg : Bool) {M : Nat} (hM : M≠0) (E u : Int) (hu : E + blen M - 64 < u) :
  rdN md neg (if blen M≤64 then M * 2 ^ (64 - blen M) else M / 2 ^ (blen M - 64)) (if blen M≤64 then false else decide (M % 2 ^ (blen M - 64)≠0)) (u - (E + blen M) + 64).toNat = rnd md neg M E u:=by
 by_cases h : blen M≤64
 ·rw [if_pos h,if_pos h,ZDv _ _ _ _ _ (by omega)]
  unfold rnd
  by_cases h2 : u≤E
  ·rw [if_pos h2,if_pos (by omega),show 64 - blen M - (u - (E + blen M) + 64).toNat = (E - u).toNat by omega]
  ·rw [if_neg h2,if_neg (by omega),show (u - (E + blen M) + 64).toNat - (64 - blen M) = (u - E).toNat by omega]
 ·rw [if_neg h,if_neg h]
  have:=ZqT md neg M false (blen M - 64) (u - (E + blen M) + 64).toNat (by omega)
  rw [Bool.false_or] at this
  rw [this]
  unfold rnd
  rw [if_neg (by omega),show blen M - 64 + (u - (E + blen M) + 64).toNat = (u - E).toNat by omega]
def ovr (F : Fm) (md : Int) (neg : Bool) : Nat:=if md = 3∨(md = 4∧neg = true)∨(md = 5∧neg = false) then F.inf neg - 1 else F.inf neg
def wordOf (F : Fm) (md : Int) (neg : Bool) (n : Nat) (ex : Bool) (e top : Int) (fine : Nat) : Nat × Nat :=
 if F.wide < blen n + e then (ovr F md neg,20)
 else (F.enc n e + F.sgn neg,if ex then 0 else if blen fine + (top - F.fr - 1) < F.low + F.fr + 1 then 24 else 16)
def Fm.eOf (F : Fm) (top : Int) : Int:=max (top - F.fr - 1) F.low
def rndW (F : Fm) (md : Int) (d : Dy) : Nat × Nat :=
 if d.m = 0 then (0,0) else
 let top:=d.e + blen d.m
 let r:=rnd md d.n d.m d.e (F.eOf top)
 wordOf F md d.n r.1 r.2 (F.eOf top) top (rnd md d.n d.m d.e (top - F.fr - 1)).1
def fmA (F : Fm) : AV:=.agg [.int .i64 ((F.fr : Int) + 1),.int .i64 F.low,.int .i64 F.wide]
theorem ZgY (J : Al G T g) (F : Fm) : run G T 47 [.int .u8 F.u] = some (.tup [fmA F,.bool true]):=by
 rw [Zab G T J.E.ZgY]
 cases F <;> (simp only [fmA,Fm.u,Fm.fr,Fm.low,Fm.wide,Int.cast_ofNat_Int,Int.reduceAdd]; repeat' (first | simp only [seval,exC,Zgs] | simp (disch:=omega) only [dxB]))
theorem iad10 (a b c : AV) (k : IntKind) : iaddrV 3 (.imm 1 [a,b,c]) (.int k 0) = some (.iptr [a,b,c] 0):=rfl
theorem iad20 (a b c a' b' c' : AV) (k : IntKind) : iaddrV 3 (.imm 2 [a,b,c,a',b',c']) (.int k 0) = some (.iptr [a,b,c,a',b',c'] 0):=rfl
theorem iad21 (a b c a' b' c' : AV) (k : IntKind) : iaddrV 3 (.imm 2 [a,b,c,a',b',c']) (.int k 1) = some (.iptr [a,b,c,a',b',c'] 3):=rfl
theorem ZoP : ∀ (e : Env) (h : Heap),evL G T Zfu e h = kS G T (evL G T Zdt (keepE [6,8,27,28,29] e) h) Zfu:=fun e h => Zae G T (c:=Zfu) rfl e h
theorem ZvB (J : Al G T g) (F : Fm) {m : Int} (h : 1≤m∧m≤5) : run G T 21 [.int .u8 F.u,.int .u8 m,.nil] = some (.tup [fmA F,.int .i64 0]):=by
 rw [Zab G T J.E.round_open]
 have h1:=ZgY (G:=G) J F
 simp only [fmA] at *
 repeat' (first | simp only [seval,exC,ZeI,h1,ZoP,Zdt] | simp (disch:=omega) only [dxB])
theorem Znw (J : Al G T g) (F : Fm) {m : Int} (h : 1≤m∧m≤5) {n z : Bool} {l : List Nat} (hd : Dg l) {e : Int} :
  run G T 21 [.int .u8 F.u,.int .u8 m,.imm 1 [.bool n,D z l,.int .i64 e]] = some (.tup [fmA F,.int .i64 (if mayD n l e then 0 else 2)]):=by
 rw [Zab G T J.E.round_open]
 have h1:=ZgY (G:=G) J F
 have h2:=Zda (G:=G) J n z hd e
 simp only [fmA,A3] at *
 cases hm : mayD n l e <;> (
  rw [hm] at h2
  repeat' (first | simp only [seval,exC,ZeI,h1,h2,ZoP,Zdt,iad10,iad20,iad21,ZFw] | simp (disch:=omega) only [dxB])
  all_goals rfl)
theorem ZvC (J : Al G T g) (F : Fm) {m : Int} (h : 1≤m∧m≤5) {n z n' z' : Bool} {l l' : List Nat} (hd : Dg l) (hd' : Dg l') {e e' : Int} :
  run G T 21 [.int .u8 F.u,.int .u8 m,.imm 2 [.bool n,D z l,.int .i64 e,.bool n',D z' l',.int .i64 e']] = some (.tup [fmA F,.int .i64 (if mayD n l e && mayD n' l' e' then 0 else 2)]):=by
 rw [Zab G T J.E.round_open]
 have h1:=ZgY (G:=G) J F
 have h2:=Zda (G:=G) J n z hd e
 have h3:=Zda (G:=G) J n' z' hd' e'
 simp only [fmA,A3] at *
 cases hm : mayD n l e <;> cases hm' : mayD n' l' e' <;> (
  rw [hm] at h2
  rw [hm'] at h3
  repeat' (first | simp only [seval,exC,ZeI,h1,h2,h3,ZoP,Zdt,iad10,iad20,iad21,ZFw] | simp (disch:=omega) only [dxB])
  all_goals rfl)
theorem Zos (J : Al G T g) {m : Int} {neg odd half more : Bool} : run G T 93 [.int .u8 m,.bool neg,.bool odd,.bool half,.bool more] = some (.bool (upB m neg odd half more)):=by
 rw [Zab G T J.E.Zos]
 by_cases h1 : m = 1
 ·subst h1
  cases odd <;> cases more <;> (repeat' (first | simp only [seval,exC,ZeJ] | simp (disch:=omega) only [dxB]); cases half <;> rfl)
 ·by_cases h2 : m = 2
  ·subst h2; repeat' (first | simp only [seval,exC,ZeJ] | simp (disch:=omega) only [dxB]); rfl
  ·by_cases h4 : m = 4
   ·subst h4
    cases neg <;> cases half <;> (repeat' (first | simp only [seval,exC,ZeJ] | simp (disch:=omega) only [dxB]); cases more <;> rfl)
   ·by_cases h5 : m = 5
    ·subst h5
     cases neg <;> cases half <;> (repeat' (first | simp only [seval,exC,ZeJ] | simp (disch:=omega) only [dxB]); cases more <;> rfl)
    ·repeat' (first | simp only [seval,exC,ZeJ] | simp (disch:=omega) only [dxB])
     simp [upB,h1,h2,h4,h5]
theorem Zki (J : Al G T g) {b : Bool} : run G T 92 [.bool b] = some (.int .u64 (b.toNat : Int)):=by
 rw [Zab G T J.E.Zki]
 cases b <;> (repeat' (first | simp only [seval,exC,ZiZ] | simp (disch:=omega) only [dxB]); try rfl)
def headN (m : Nat) : Nat:=if blen m≤64 then m * 2 ^ (64 - blen m) else m / 2 ^ (blen m - 64)
def behindN (m : Nat) : Bool:=if blen m≤64 then false else decide (m % 2 ^ (blen m - 64)≠0)
theorem Zmz {m : Nat} (h : m≠0) : blen (headN m) = 64:=by
 unfold headN; split
 ·rw [Zav h]; omega
 ·rw [Zaj]; omega
def partA (w : Nat) (top : Int) (more : Bool) : AV:=.agg [.int .u64 (w : Int),.int .i64 top,.bool more]
theorem ZgZ (J : Al G T g) {z : Bool} {d : Dy} (hm : mayL (dl d.m) = true) (h0 : d.m≠0) (he : -1099511627776 < d.e∧d.e < 1099511627776) :
  run G T 23 [DyA z d] = some (partA (headN d.m) (d.e + blen d.m) (behindN d.m)):=by
 rw [Zab G T J.E.ZgZ]
 obtain ⟨n,m,e⟩:=d
 simp only at *
 have hb:=ZdM hm
 have hh:=Zmz h0
 have h1:=ZfG J (z:=z) hm
 have h64 : headN m < 18446744073709551616:=Zaf.1 (Nat.le_of_eq hh)
 have hs : ∃ z',run G T 50 [D z (dl m),.int .i64 (64 - blen m)] = some (.tup [D z' (dl (headN m)),.bool (behindN m),.int .i64 0]):=by
  unfold headN behindN
  by_cases hc : blen m≤64
  ·obtain ⟨z',hz⟩:=Zct (G:=G) J (z:=z) (a:=m) (n:=64 - blen m) hm (by omega) (by omega)
   rw [show ((64 - blen m : Nat) : Int) = 64 - blen m by omega] at hz
   exact ⟨z',by rw [if_pos hc,if_pos hc]; exact hz⟩
  ·obtain ⟨z',hz⟩:=ZgA (G:=G) J (z:=z) (a:=m) (n:=blen m - 64) hm (by omega) (by omega)
   rw [show -((blen m - 64 : Nat) : Int) = 64 - blen m by omega] at hz
   exact ⟨z',by rw [if_neg hc,if_neg hc,hz]; simp⟩
 obtain ⟨z',h2⟩:=hs
 have h3:=ZqK J (z:=z') h64
 simp only [DyA,A3,partA] at *
 repeat' (first | simp only [seval,exC,Zgt,h1,h2,h3] | simp (disch:=omega) only [dxB])
theorem Zve {x : Int} (h : 0≤x∧x < 18446744073709551616) : andI .u64 x 1 = x % 2:=by
 obtain ⟨n,rfl⟩:=Int.eq_ofNat_of_zero_le h.1
 have:=and64 (a:=n) (b:=1) (by omega) (by decide)
 rw [show ((1 : Nat) : Int) = 1 from rfl] at this
 rw [this,Zsm]; rfl
theorem Zuf {n : Nat} (h : n < 18446744073709551616) : 0≤(n : Int)∧(n : Int) < 18446744073709551616:=⟨Int.natCast_nonneg n,by omega⟩
theorem Zsl {x j : Nat} (hx : x < 18446744073709551616) (hj : j < 64) : andI .u64 (x : Int) (2 ^ j - 1) = ((x % 2 ^ j : Nat) : Int):=by
 have hp:=Nat.two_pow_pos j
 have h2 : 2 ^ j < 18446744073709551616:=Nat.lt_of_lt_of_le (Nat.pow_lt_pow_right (by decide) hj) (by decide)
 have e : ((2 : Int) ^ j - 1) = ((2 ^ j - 1 : Nat) : Int):=by rw [Zbb]; omega
 rw [e,and64 hx (by omega),Nat.and_two_pow_sub_one_eq_mod]
set_option maxHeartbeats 2000000 in
theorem Zrj (J : Al G T g) {m : Int} {neg more : Bool} {w k : Nat} {e top : Int} (hw : blen w = 64) (hk : e - top + 64 = k) (h0 : 0 < k) (he : -1099511627776 < e∧e < 1099511627776) (ht : -1099511627776 < top∧top < 1099511627776) :
  run G T 52 [partA w top more,.int .u8 m,.bool neg,.int .i64 e] = some (.tup [.int .u64 ((rdN m neg w more k).1 : Int),.bool (rdN m neg w more k).2]):=by
 rw [Zab G T J.E.round_part_units]
 have h64 : w < 18446744073709551616:=Zaf.1 (Nat.le_of_eq hw)
 have hw0 : w≠0:=by rintro rfl; rw [Zag] at hw; omega
 by_cases hc : 64 < k
 ·have h1:=Zos (G:=G) J (m:=m) (neg:=neg) (odd:=false) (half:=false) (more:=true)
  have h2:=Zki (G:=G) J (b:=upB m neg false false true)
  have e0 : ∀ j,64≤j→w < 2 ^ j:=fun j hj => Nat.lt_of_lt_of_le h64 (by rw [show 18446744073709551616 = 2 ^ 64 from rfl]; exact Nat.pow_le_pow_right (by decide) hj)
  have e1 : w / 2 ^ k = 0:=Nat.div_eq_of_lt (e0 _ (by omega))
  have e2 : halfN w k = false:=by simp only [halfN]; rw [Nat.div_eq_of_lt (e0 _ (by omega))]; rfl
  have e3 : moreN w more k = true:=by simp only [moreN]; rw [Nat.mod_eq_of_lt (e0 _ (by omega)),decide_eq_true hw0,Bool.or_true]
  have e4 : rdN m neg w more k = ((upB m neg false false true).toNat,false):=by simp only [rdN,e1,e2,e3]; simp
  rw [e4]
  simp only [partA] at *
  repeat' (first | simp only [seval,exC,ZaB,h1,h2,hk] | simp (disch:=omega) only [dxB])
 ·have hkm : min (k - 1) 64 = k - 1:=by omega
  have hkp : min k 64 = k:=by omega
  have p1:=Nat.two_pow_pos k
  have hh : (w : Int) / 2 ^ (k - 1) = ((w / 2 ^ (k - 1) : Nat) : Int):=by rw [Zbb]; rfl
  have hd : (w : Int) / 2 ^ k = ((w / 2 ^ k : Nat) : Int):=by rw [Zbb]; rfl
  have hq : w / 2 ^ (k - 1) < 18446744073709551616:=Nat.lt_of_le_of_lt (Nat.div_le_self ..) h64
  have hq2 : w / 2 ^ k < 9223372036854775808:=by
   apply Nat.div_lt_of_lt_mul
   have : 2 ^ 1≤2 ^ k:=Nat.pow_le_pow_right (by decide) h0
   omega
  have hmsk:=Zsl (x:=w) (j:=k - 1) h64 (by omega)
  have p2 : 2 ^ (k - 1) < 18446744073709551616:=Nat.lt_of_lt_of_le (Nat.pow_lt_pow_right (by decide) (show k - 1 < 64 by omega)) (by decide)
  have p3:=Nat.two_pow_pos (k - 1)
  have w1 : (1 * (2 : Int) ^ (k - 1)) % 18446744073709551616 = 2 ^ (k - 1):=by rw [Zbb]; omega
  have w2 : ((2 : Int) ^ (k - 1) - 1) % 18446744073709551616 = 2 ^ (k - 1) - 1:=by rw [Zbb]; omega
  have hb1 : decide (((w / 2 ^ (k - 1) : Nat) : Int) % 2 = 1) = halfN w k:=by
   simp only [halfN]; congr 1; apply propext; omega
  have hb2 : (!decide (((w % 2 ^ (k - 1) : Nat) : Int) = 0)) = moreN w false k:=by
   simp only [moreN,Bool.false_or,ne_eq,decide_not]; congr 2; apply propext; omega
  have hb4 : moreN w true k = true:=rfl
  have hA1:=Zve (x:=((w / 2 ^ (k - 1) : Nat) : Int)) (Zuf hq)
  have hA2:=Zve (x:=((w / 2 ^ k : Nat) : Int)) (Zuf (Nat.lt_trans hq2 (by decide)))
  have hA3:=Zve (x:=0) (by decide)
  by_cases hk2 : k = 64
  ·have e1 : w / 2 ^ k = 0:=Nat.div_eq_of_lt (by rw [hk2]; exact h64)
   have h1:=Zos (G:=G) J (m:=m) (neg:=neg) (odd:=false) (half:=halfN w k) (more:=moreN w more k)
   have h2:=Zki (G:=G) J (b:=upB m neg false (halfN w k) (moreN w more k))
   have e4 : rdN m neg w more k = ((upB m neg false (halfN w k) (moreN w more k)).toNat,!halfN w k && !moreN w more k):=by simp only [rdN,e1]; simp
   have hbt : (upB m neg false (halfN w k) (moreN w more k)).toNat≤1:=by cases upB m neg false (halfN w k) (moreN w more k) <;> decide
   rw [e4]
   generalize (upB m neg false (halfN w k) (moreN w more k)).toNat = bt at *
   simp only [partA] at *
   cases more
   ·cases hH : halfN w k <;> cases hM : moreN w false k <;> (
     rw [hH] at h1 h2 hb1
     rw [hM] at h1 h2 hb2
     repeat' (first | simp only [seval,exC,ZaB,h1,h2,hk,hkm,hA1,hA2,hA3,hh,hb1,hb2,hmsk,w1,w2] | simp (disch:=omega) only [dxB])
     all_goals (refine Zhh ?_; clear hA1 hA2; generalize w / 2 ^ k = Q at hq2 ⊢; omega))
   ·rw [hb4] at *
    cases hH : halfN w k <;> (
     rw [hH] at h1 h2 hb1
     repeat' (first | simp only [seval,exC,ZaB,h1,h2,hk,hkm,hA1,hA2,hA3,hh,hb1,hmsk,w1,w2] | simp (disch:=omega) only [dxB])
     all_goals (refine Zhh ?_; clear hA1 hA2; generalize w / 2 ^ k = Q at hq2 ⊢; omega))
  ·have h1:=Zos (G:=G) J (m:=m) (neg:=neg) (odd:=decide (w / 2 ^ k % 2 = 1)) (half:=halfN w k) (more:=moreN w more k)
   have h2:=Zki (G:=G) J (b:=upB m neg (decide (w / 2 ^ k % 2 = 1)) (halfN w k) (moreN w more k))
   have hb3 : decide (((w / 2 ^ k : Nat) : Int) % 2 = 1) = decide (w / 2 ^ k % 2 = 1):=by congr 1; apply propext; omega
   have hbt : (upB m neg (decide (w / 2 ^ k % 2 = 1)) (halfN w k) (moreN w more k)).toNat≤1:=by cases upB m neg (decide (w / 2 ^ k % 2 = 1)) (halfN w k) (moreN w more k) <;> decide
   simp only [rdN]
   generalize (upB m neg (decide (w / 2 ^ k % 2 = 1)) (halfN w k) (moreN w more k)).toNat = bt at *
   simp only [partA] at *
   have hlt : k < 64:=by omega
   cases more
   ·cases hH : halfN w k <;> cases hM : moreN w false k <;> (
     rw [hH] at h1 h2 hb1
     rw [hM] at h1 h2 hb2
     repeat' (first | simp only [seval,exC,ZaB,h1,h2,hk,hkm,hA1,hA2,hA3,hkp,hh,hd,hb1,hb2,hb3,hmsk,w1,w2] | simp (disch:=omega) only [dxB])
     all_goals (refine Zhh ?_; clear hA1 hA2; generalize w / 2 ^ k = Q at hq2 ⊢; omega))
   ·rw [hb4] at *
    cases hH : halfN w k <;> (
     rw [hH] at h1 h2 hb1
     repeat' (first | simp only [seval,exC,ZaB,h1,h2,hk,hkm,hA1,hA2,hA3,hkp,hh,hd,hb1,hb3,hmsk,w1,w2] | simp (disch:=omega) only [dxB])
     all_goals (refine Zhh ?_; clear hA1 hA2; generalize w / 2 ^ k = Q at hq2 ⊢; omega))
theorem ZeO (J : Al G T g) (F : Fm) {m : Int} (h : 1≤m∧m≤5) {neg : Bool} : run G T 8 [.int .u8 F.u,.int .u8 m,.bool neg] = some (.tup [.int .u64 (ovr F m neg : Int),.int .i64 0]):=by
 rw [Zab G T J.E.ZeO]
 have h1:=ZvB (G:=G) J F h
 have h2:=Zlm (G:=G) J F (n:=neg)
 have h3:=Zjp (G:=G) J F (n:=neg)
 simp only [fmA] at *
 cases neg
 ·repeat' (first|simp (maxSteps:=9^7) only [seval,exC,ZgM,h1,h2,h3]|simp (maxSteps:=9^7) (disch:=first|with_reducible assumption|omega) only [dxB]|(simp only [kdB];split)|(simp only [kvB];split))
  all_goals simp_all [ovr]
 ·repeat' (first|simp (maxSteps:=9^7) only [seval,exC,ZgM,h1,h2,h3]|simp (maxSteps:=9^7) (disch:=first|with_reducible assumption|omega) only [dxB]|(simp only [kdB];split)|(simp only [kvB];split))
  all_goals simp_all [ovr]
theorem ZdN (n : Bool) (e : Int) : mkD n 0 e = ⟨false,0,0⟩:=rfl
theorem Zal {n : Bool} {m : Nat} (h : m≠0) (e : Int) : mkD n m e = ⟨n,m / 2 ^ tz m,e + tz m⟩:=if_neg h
theorem ZlH {n : Bool} {m : Nat} (h : m≠0) (e : Int) : (mkD n m e).m≠0:=by
 rw [Zal h]; have:=(ZfL h).2; intro h0; simp only at h0; rw [h0] at this; exact absurd this (by decide)
theorem ZpH {n : Bool} {m : Nat} (h : m≠0) (e : Int) : (mkD n m e).e + blen (mkD n m e).m = e + blen m:=by
 rw [Zal h]; simp only [Zaj]
 have:=Zhi h; omega
theorem Zak {a : Nat} (h : blen a≤131072) : mayL (dl a) = true:=by
 rw [ZaO]; refine ⟨?_,ZDL a⟩; have:=Zaa a; omega
theorem dg0 (a : Nat) : dg (dl a) 0 % 2 = a % 2:=by
 rw [Zpw (Zao a),ZaE]; simp
theorem ZEV {n : Bool} {m : Nat} {e : Int} (hb : blen m≤131072) (he : m = 0∨(-16777216≤e + tz m∧e + tz m≤16777216)) : mayD (mkD n m e).n (dl (mkD n m e).m) (mkD n m e).e = true:=by
 by_cases h : m = 0
 ·subst h; rw [ZdN,Zai]; rfl
 ·rw [Zal h]
  simp only at *
  have h1 : mayL (dl (m / 2 ^ tz m)) = true:=Zak (by rw [Zaj]; omega)
  have h2:=(ZfL h).2
  have h3 : ¬ (dl (m / 2 ^ tz m)).length = 0:=by rw [Zan]; intro h0; rw [h0] at h2; exact absurd h2 (by decide)
  simp only [mayD,h1,h3,if_false,dg0,h2,Bool.true_and,decide_true]
  rw [decide_eq_true (by omega : -16777216≤e + tz m),decide_eq_true (by omega : e + tz m≤16777216)]; rfl
theorem ZmB {F : Fm} {neg : Bool} {n : Nat} {e : Int} (h0 : n≠0) (h1 : n≤2 ^ (F.fr + 1)) (h2 : F.low≤e) (h3 : e + blen n≤F.wide) : F.fits (mkD neg n e):=by
 have hb:=ZpH (n:=neg) h0 e
 have hm:=ZlH (n:=neg) h0 e
 refine ⟨hm,?_,?_,by omega⟩
 ·rw [Zal h0]; simp only
  rcases Nat.lt_or_ge n (2 ^ (F.fr + 1)) with h | h
  ·rw [Zaj]; have:=Zaf.2 h; omega
  ·have h5 : n = 1 * 2 ^ (F.fr + 1):=by omega
   rw [h5,ZfM (by decide),Nat.mul_div_cancel _ (Nat.two_pow_pos _),show blen 1 = 1 from rfl]; omega
 ·rw [Zal h0]; simp only; omega
theorem ZsH {F : Fm} {neg : Bool} {n : Nat} {e : Int} (h0 : n≠0) (h1 : n≤2 ^ (F.fr + 1)) (h2 : F.low≤e) (h4 : e = F.low∨2 ^ F.fr≤n) :
  F.enc ((mkD neg n e).m * 2 ^ ((mkD neg n e).e - F.unit (mkD neg n e)).toNat) (F.unit (mkD neg n e)) = F.enc n e:=by
 have hb:=ZpH (n:=neg) h0 e
 have hu : F.unit (mkD neg n e) = max (e + blen n - F.fr - 1) F.low:=by unfold Fm.unit; rw [hb]
 rw [hu]
 rcases Nat.lt_or_ge n (2 ^ (F.fr + 1)) with h | h
 ·have h5:=Zaf.2 h
  have h6 : max (e + blen n - F.fr - 1) F.low = e:=by
   rcases h4 with h4 | h4
   ·omega
   ·have:=Zbn.2 h4; omega
  rw [h6,Zal h0]
  simp only
  rw [show (e + (tz n : Int) - e).toNat = tz n by omega,← (ZfL h0).1]
 ·have h5 : n = 1 * 2 ^ (F.fr + 1):=by omega
  have h6 : tz n = F.fr + 1:=by rw [h5]; exact ZfM (by decide)
  have h7 : blen n = F.fr + 2:=by rw [h5,Zav (by decide),show blen 1 = 1 from rfl]; omega
  rw [Zal h0,h6,h7]
  simp only
  have h8 : n / 2 ^ (F.fr + 1) = 1:=by rw [h5,Nat.mul_div_cancel _ (Nat.two_pow_pos _)]
  rw [h8,show max (e + ((F.fr + 2 : Nat) : Int) - F.fr - 1) F.low = e + 1 by omega,show (e + ((F.fr + 1 : Nat) : Int) - (e + 1)).toNat = F.fr by omega]
  unfold Fm.enc
  rw [show (e + 1 - F.low).toNat = (e - F.low).toNat + 1 by omega,Nat.add_mul,h5,Nat.pow_succ]; omega
theorem ZwR {md : Int} {neg more : Bool} {w k : Nat} (hw : blen w = 64) {p : Nat} (hk : 64≤k + p) : (rdN md neg w more k).1≤2 ^ p:=by
 have h64 : w < 2 ^ 64:=Zaf.1 (Nat.le_of_eq hw)
 have h1 : w / 2 ^ k < 2 ^ p:=by
  apply Nat.div_lt_of_lt_mul
  rw [← Nat.pow_add]
  exact Nat.lt_of_lt_of_le h64 (Nat.pow_le_pow_right (by decide) hk)
 have h2 : ∀ b : Bool,b.toNat≤1:=by intro b; cases b <;> decide
 have:=h2 (upB md neg (decide (w / 2 ^ k % 2 = 1)) (halfN w k) (moreN w more k))
 simp only [rdN]; omega
theorem ZzK {md : Int} {neg more : Bool} {w k : Nat} (hw : blen w = 64) (hk : k≤63) : 2 ^ (63 - k)≤(rdN md neg w more k).1:=by
 have h1 : 2 ^ 63≤w:=Zbn.1 (by omega)
 have h2 : 2 ^ (63 - k)≤w / 2 ^ k:=by
  rw [Nat.le_div_iff_mul_le (Nat.two_pow_pos _),← Nat.pow_add,show 63 - k + k = 63 by omega]; exact h1
 simp only [rdN]; omega
theorem ZbH (F : Fm) : (F.fr = 23∧F.low = -149∧F.wide = 128)∨(F.fr = 52∧F.low = -1074∧F.wide = 1024):=by
 cases F
 ·exact Or.inl ⟨rfl,rfl,rfl⟩
 ·exact Or.inr ⟨rfl,rfl,rfl⟩
def partW (F : Fm) (md : Int) (neg : Bool) (w : Nat) (more : Bool) (top : Int) : Nat × Nat :=
 wordOf F md neg (rdN md neg w more (F.eOf top - top + 64).toNat).1 (rdN md neg w more (F.eOf top - top + 64).toNat).2 (F.eOf top) top (rdN md neg w more (63 - F.fr)).1
set_option maxHeartbeats 4000000 in
theorem Zpc (J : Al G T g) (F : Fm) {m : Int} (hm : 1≤m∧m≤5) {neg more : Bool} {w : Nat} {top : Int} (hw : blen w = 64) (ht : -549755813888 < top∧top < 549755813888) :
  run G T 24 [partA w top more,.int .u8 F.u,fmA F,.int .u8 m,.bool neg] = some (.tup [.int .u64 ((partW F m neg w more top).1 : Int),.int .u8 ((partW F m neg w more top).2 : Int)]):=by
 rw [Zab G T J.E.round_part_word]
 have hF:=ZbH F
 have hE : max (top - ((F.fr : Int) + 1)) F.low = F.eOf top:=by unfold Fm.eOf; omega
 have u1:=Zrj (G:=G) J (m:=m) (neg:=neg) (more:=more) (w:=w) (k:=(F.eOf top - top + 64).toNat) (e:=F.eOf top) (top:=top) hw (by omega) (by omega) (by omega) (by omega)
 have u2:=Zrj (G:=G) J (m:=m) (neg:=neg) (more:=more) (w:=w) (k:=63 - F.fr) (e:=top - ((F.fr : Int) + 1)) (top:=top) hw (by omega) (by omega) (by omega) (by omega)
 have b1:=ZwR (md:=m) (neg:=neg) (more:=more) hw (k:=(F.eOf top - top + 64).toNat) (p:=F.fr + 1) (by omega)
 have b2:=ZwR (md:=m) (neg:=neg) (more:=more) hw (k:=63 - F.fr) (p:=F.fr + 1) (by omega)
 have l1 : F.eOf top = F.low∨2 ^ F.fr≤(rdN m neg w more (F.eOf top - top + 64).toNat).1:=by
  by_cases h : F.eOf top = F.low
  ·exact Or.inl h
  ·right
   have:=ZzK (md:=m) (neg:=neg) (more:=more) hw (k:=(F.eOf top - top + 64).toNat) (by omega)
   rwa [show 63 - (F.eOf top - top + 64).toNat = F.fr by omega] at this
 have hp : 2 ^ (F.fr + 1)≤9007199254740992:=by cases F <;> decide
 have o1:=ZeO (G:=G) J F hm (neg:=neg)
 unfold partW
 generalize (F.eOf top - top + 64).toNat = k at *
 obtain ⟨n,ex,hR⟩ : ∃ n ex,rdN m neg w more k = (n,ex):=⟨_,_,rfl⟩
 obtain ⟨fine,ex2,hR2⟩ : ∃ n ex,rdN m neg w more (63 - F.fr) = (n,ex):=⟨_,_,rfl⟩
 rw [hR] at u1 b1 l1 ⊢
 rw [hR2] at u2 b2 ⊢
 simp only at *
 have c1:=ZhI J (x:=n) (by omega)
 have c2:=ZhI J (x:=fine) (by omega)
 have q1 : blen n≤54:=Zaf.2 (by omega)
 have q2 : blen fine≤54:=Zaf.2 (by omega)
 obtain ⟨z1,f1⟩:=ZqL J (n:=n) (by omega)
 by_cases hov : F.wide < blen n + F.eOf top
 ·simp only [wordOf,if_pos hov]
  simp only [partA,fmA] at *
  repeat' (first|simp (maxSteps:=9^7) only [seval,exC,ZaJ,hE,u1,c1,o1]|simp (maxSteps:=9^7) (disch:=first|with_reducible assumption|omega) only [dxB]|(simp only [kdB];split)|(simp only [kvB];split))
 ·by_cases hn : n = 0
  ·subst hn
   have hlow : F.eOf top = F.low:=by
    rcases l1 with h | h
    ·exact h
    ·have:=Nat.two_pow_pos F.fr; omega
   obtain ⟨z2,f2⟩:=Zcm J (n:=neg) (z:=z1) (a:=0) (e:=F.eOf top) (Zak (by rw [Zag]; omega)) (Or.inl rfl) (by omega)
   rw [ZdN] at f2
   have f3:=ZuX J F (z:=z2)
   have f4:=Zmg J F (n:=neg)
   have e0 : F.enc 0 (F.eOf top) = 0:=by rw [hlow]; simp [Fm.enc]
   simp only [wordOf,if_neg hov,e0,Nat.zero_add]
   simp only [partA,fmA,DyA,A3,cast0] at *
   cases ex
   ·repeat' (first|simp (maxSteps:=9^7) only [seval,exC,ZaJ,hE,u1,c1,c2,u2,f1,f2,f3,f4]|simp (maxSteps:=9^7) (disch:=first|with_reducible assumption|omega) only [dxB]|(simp only [kdB];split)|(simp only [kvB];split))
    all_goals simp_all
    all_goals (split <;> omega)
   ·repeat' (first|simp (maxSteps:=9^7) only [seval,exC,ZaJ,hE,u1,c1,c2,u2,f1,f2,f3,f4]|simp (maxSteps:=9^7) (disch:=first|with_reducible assumption|omega) only [dxB]|(simp only [kdB];split)|(simp only [kvB];split))
    all_goals simp_all
  ·have htz:=Zhi hn
   obtain ⟨z2,f2⟩:=Zcm J (n:=neg) (z:=z1) (a:=n) (e:=F.eOf top) (Zak (by omega)) (Or.inr (by omega)) (by omega)
   have hft:=ZmB (F:=F) (neg:=neg) hn b1 (by omega : F.low≤F.eOf top) (by omega)
   have f3:=Zts J F (z:=z2) (ZEV (n:=neg) (m:=n) (e:=F.eOf top) (by omega) (Or.inr (by omega))) hft
   rw [ZsH hn b1 (by omega) l1] at f3
   have hsn : (mkD neg n (F.eOf top)).n = neg:=by rw [Zal hn]
   rw [hsn] at f3
   simp only [wordOf,if_neg hov]
   have hn' : ¬ (n : Int) = 0:=by omega
   simp only [partA,fmA,DyA,A3] at *
   cases ex
   ·repeat' (first|simp (maxSteps:=9^7) only [seval,exC,ZaJ,hE,u1,c1,c2,u2,f1,f2,f3,hn']|simp (maxSteps:=9^7) (disch:=first|with_reducible assumption|omega) only [dxB]|(simp only [kdB];split)|(simp only [kvB];split))
    all_goals simp_all
    all_goals (split <;> omega)
   ·repeat' (first|simp (maxSteps:=9^7) only [seval,exC,ZaJ,hE,u1,c1,c2,u2,f1,f2,f3,hn']|simp (maxSteps:=9^7) (disch:=first|with_reducible assumption|omega) only [dxB]|(simp only [kdB];split)|(simp only [kvB];split))
    all_goals simp_all
theorem ZwN (F : Fm) (md : Int) {d : Dy} (h : d.m≠0) : partW F md d.n (headN d.m) (behindN d.m) (d.e + blen d.m) = rndW F md d:=by
 have hF:=ZbH F
 have e1:=ZpK md d.n h d.e (F.eOf (d.e + blen d.m)) (by unfold Fm.eOf; omega)
 have e2:=ZpK md d.n h d.e (d.e + blen d.m - F.fr - 1) (by omega)
 rw [show (d.e + (blen d.m : Int) - F.fr - 1 - (d.e + blen d.m) + 64).toNat = 63 - F.fr by omega] at e2
 simp only [partW,rndW,if_neg h,headN,behindN,e1,e2]
theorem ZfK {n : Bool} {m : Nat} {e : Int} (h : mayD n (dl m) e = true) : (if mayD n (dl m) e = false∨(dl m).length = 0 then (0 : Int) else if n then -1 else 1) = if m = 0 then 0 else if n then -1 else 1:=by
 simp [h,ZgR]
theorem Zbx {n : Bool} {l : List Nat} {e : Int} (h : mayD n l e = true) : mayL l = true∧(l.length = 0→n = false∧e = 0)∧(l.length≠0→dg l 0 % 2 = 1)∧-16777216≤e∧e≤16777216:=by
 simp only [mayD,Bool.and_eq_true] at h
 obtain ⟨h1,h2⟩:=h
 refine ⟨h1,?_⟩
 by_cases h0 : l.length = 0
 ·rw [if_pos h0] at h2
  simp only [Bool.and_eq_true,Bool.not_eq_true',decide_eq_true_eq] at h2
  exact ⟨fun _ => h2,fun h => absurd h0 h,by omega,by omega⟩
 ·rw [if_neg h0] at h2
  simp only [Bool.and_eq_true,decide_eq_true_eq] at h2
  exact ⟨fun h => absurd h h0,fun _ => h2.1,h2.2.1,h2.2.2⟩
theorem Ziw (J : Al G T g) (F : Fm) {m : Int} (hm : 1≤m∧m≤5) {z : Bool} {d : Dy} (hd : mayD d.n (dl d.m) d.e = true) :
  run G T 7 [.int .u8 F.u,.int .u8 m,DyA z d] = some (.tup [.int .u64 ((rndW F m d).1 : Int),.int .u8 ((rndW F m d).2 : Int),.int .i64 0]):=by
 rw [Zab G T J.E.Ziw]
 obtain ⟨f1,f2,f3,f4,f5⟩:=Zbx hd
 have o1:=Znw (G:=G) J F hm (n:=d.n) (z:=z) (Zao d.m) (e:=d.e)
 rw [hd,if_pos rfl] at o1
 have s1:=Zcn (G:=G) J (n:=d.n) (z:=z) (Zao d.m) (e:=d.e)
 rw [ZfK hd] at s1
 by_cases h0 : d.m = 0
 ·rw [if_pos h0] at s1
  simp only [rndW,if_pos h0]
  simp only [DyA,A3,fmA] at *
  repeat' (first | simp only [seval,exC,Zft,o1,s1] | simp (disch:=omega) only [dxB])
  all_goals rfl
 ·have hb:=ZdM f1
  have p1:=ZgZ (G:=G) J (z:=z) f1 h0 (by omega)
  have w1:=Zpc (G:=G) J F hm (neg:=d.n) (more:=behindN d.m) (w:=headN d.m) (top:=d.e + blen d.m) (Zmz h0) (by omega)
  rw [ZwN F m h0] at w1
  rw [if_neg h0] at s1
  cases hn : d.n <;> (
   simp only [DyA,A3,fmA,partA,hn,Bool.false_eq_true,if_true,if_false] at *
   repeat' (first | simp only [seval,exC,Zft,o1,s1,p1,w1] | simp (disch:=omega) only [dxB]))
def iv (d : Dy) (L : Int) : Int:=(if d.n then -1 else 1) * ((d.m * 2 ^ (d.e - L).toNat : Nat) : Int)
def LoE (d : Dy) (L : Int) : Prop:=d.m = 0∨L≤d.e
def sgI (x : Int) : Int:=if x < 0 then -1 else if 0 < x then 1 else 0
theorem ZcG {d : Dy} (h : d.m = 0) (L : Int) : iv d L = 0:=by simp [iv,h]
theorem ZoB {a b c : Int} (h1 : a≤b) (h2 : b≤c) : 2 ^ (c - a).toNat = 2 ^ (c - b).toNat * 2 ^ (b - a).toNat:=by
 rw [← Nat.pow_add]; congr 1; omega
theorem ZsJ {n : Bool} {m : Nat} (h : m≠0) {e L : Int} (hL : L≤e) : (mkD n m e).m * 2 ^ ((mkD n m e).e - L).toNat = m * 2 ^ (e - L).toNat:=by
 rw [Zal h]
 simp only
 rw [ZoB (b:=e) hL (by omega),show (e + (tz m : Int) - e).toNat = tz m by omega,← Nat.mul_assoc,← (ZfL h).1]
theorem ZEZ {n : Bool} {m : Nat} (h : m≠0) (e : Int) : (mkD n m e).n = n:=by rw [Zal h]
theorem ZrA {n : Bool} {m : Nat} {e L : Int} (hL : L≤e) : iv (mkD n m e) L = (if n then -1 else 1) * ((m * 2 ^ (e - L).toNat : Nat) : Int):=by
 by_cases h : m = 0
 ·subst h; rw [ZdN]; simp [iv]
 ·unfold iv; rw [ZsJ h hL,ZEZ h]
theorem ZmT {n : Bool} {m : Nat} {e L : Int} (hL : L≤e) : LoE (mkD n m e) L:=by
 by_cases h : m = 0
 ·subst h; exact Or.inl rfl
 ·right; rw [Zal h]; simp only; omega
theorem LoE.mono {d : Dy} {L L' : Int} (h : LoE d L) (hl : L'≤L) : LoE d L':=h.imp id (by omega)
theorem ZBJ {d : Dy} {L L' : Int} (h : LoE d L) (hl : L'≤L) : iv d L' = iv d L * ((2 ^ (L - L').toNat : Nat) : Int):=by
 rcases h with h | h
 ·rw [ZcG h,ZcG h]; simp
 ·unfold iv
  rw [ZoB hl h,← Nat.mul_assoc,Int.natCast_mul,Int.mul_assoc]
theorem ZHf (d : Dy) (L : Int) : iv (negD d) L = -iv d L:=by
 unfold negD; split
 ·next h => rw [ZcG h]; rfl
 ·unfold iv; cases d.n <;> simp
theorem ZDK {d : Dy} {L : Int} (h : LoE d L) : LoE (negD d) L:=by
 unfold negD; split
 ·exact h
 ·exact h
theorem ZFR (n : Bool) (a b : Int) : (if n then -1 else 1) * a + (if n then -1 else 1) * b = (if n then -1 else 1) * (a + b):=by cases n <;> simp <;> omega
theorem Zzg {a b : Dy} {L : Int} (ha : LoE a L) (hb : LoE b L) : iv (addD a b) L = iv a L + iv b L∧LoE (addD a b) L:=by
 unfold addD
 by_cases h0 : a.m = 0
 ·rw [if_pos h0,ZcG h0,Int.zero_add]; exact ⟨rfl,hb⟩
 ·rw [if_neg h0]
  by_cases h1 : b.m = 0
  ·rw [if_pos h1,ZcG h1,Int.add_zero]; exact ⟨rfl,ha⟩
  ·rw [if_neg h1]
   have la : L≤a.e:=ha.resolve_left h0
   have lb : L≤b.e:=hb.resolve_left h1
   have hL : L≤min a.e b.e:=by omega
   have va : iv a L = (if a.n then -1 else 1) * (((a.m * 2 ^ (a.e - min a.e b.e).toNat) * 2 ^ (min a.e b.e - L).toNat : Nat) : Int):=by
    unfold iv; rw [ZoB hL (show min a.e b.e≤a.e by omega),Nat.mul_assoc]
   have vb : iv b L = (if b.n then -1 else 1) * (((b.m * 2 ^ (b.e - min a.e b.e).toNat) * 2 ^ (min a.e b.e - L).toNat : Nat) : Int):=by
    unfold iv; rw [ZoB hL (show min a.e b.e≤b.e by omega),Nat.mul_assoc]
   rw [va,vb]
   generalize a.m * 2 ^ (a.e - min a.e b.e).toNat = A
   generalize b.m * 2 ^ (b.e - min a.e b.e).toNat = B
   generalize hM : min a.e b.e = M at *
   by_cases hn : a.n = b.n
   ·rw [if_pos hn]
    refine ⟨?_,ZmT hL⟩
    rw [ZrA hL,← hn,ZFR,Nat.add_mul,Int.natCast_add]
   ·rw [if_neg hn]
    have hbn : b.n = !a.n:=by cases h : a.n <;> cases h' : b.n <;> simp_all
    by_cases hc : B≤A
    ·rw [if_pos hc]
     refine ⟨?_,ZmT hL⟩
     rw [ZrA hL,hbn]
     have:=Nat.mul_le_mul_right (2 ^ (M - L).toNat) hc
     rw [Nat.sub_mul,Int.natCast_sub this]
     cases a.n <;> simp <;> omega
    ·rw [if_neg hc]
     refine ⟨?_,ZmT hL⟩
     rw [ZrA hL,hbn]
     have:=Nat.mul_le_mul_right (2 ^ (M - L).toNat) (by omega : A≤B)
     rw [Nat.sub_mul,Int.natCast_sub this]
     cases a.n <;> simp <;> omega
theorem Zzh {a b : Dy} {L : Int} (ha : LoE a L) (hb : LoE b L) : iv (subD a b) L = iv a L - iv b L∧LoE (subD a b) L:=by
 have h:=Zzg ha (ZDK hb)
 rw [ZHf] at h
 exact ⟨by unfold subD; rw [h.1]; omega,h.2⟩
theorem ZHh {n L : Int} : iv (twoD n) L = ((2 ^ (n - L).toNat : Nat) : Int):=by simp [iv,twoD]
theorem ZAe (d : Dy) (L : Int) : sgnD d = sgI (iv d L):=by
 unfold sgnD sgI iv
 have hp:=Nat.two_pow_pos (d.e - L).toNat
 by_cases h : d.m = 0
 ·simp [h]
 ·rw [if_neg h]
  have : 0 < d.m * 2 ^ (d.e - L).toNat:=Nat.mul_pos (by omega) hp
  generalize d.m * 2 ^ (d.e - L).toNat = X at *
  cases d.n <;> simp <;> omega
theorem Zxm {a b : Dy} {L : Int} (h0 : a.m≠0) (h1 : b.m≠0) (la : L≤a.e) (lb : L≤b.e) (h : a.e + blen a.m < b.e + blen b.m) : a.m * 2 ^ (a.e - L).toNat < b.m * 2 ^ (b.e - L).toNat:=by
 have e1:=Zav h0 (a.e - L).toNat
 have e2:=Zav h1 (b.e - L).toNat
 have h2 : blen (a.m * 2 ^ (a.e - L).toNat)≤blen (b.m * 2 ^ (b.e - L).toNat) - 1:=by omega
 have h3:=Zaf.1 h2
 have h4:=ZbD (n:=b.m * 2 ^ (b.e - L).toNat) (by
  have:=Nat.mul_pos (Nat.pos_of_ne_zero h1) (Nat.two_pow_pos (b.e - L).toNat); omega)
 omega
theorem Zpo {a b : Dy} {L : Int} (ha : LoE a L) (hb : LoE b L) : cmpD a b = sgI (iv a L - iv b L):=by
 unfold cmpD
 have sa:=ZAe a L
 have sb:=ZAe b L
 by_cases h1 : sgnD a = sgnD b
 ·rw [if_neg (by simpa using h1)]
  by_cases h2 : sgnD a = 0
  ·rw [if_pos h2]
   have z1 : a.m = 0:=by unfold sgnD at h2; split at h2; assumption; split at h2 <;> cases h2
   have z2 : b.m = 0:=by rw [h1] at h2; unfold sgnD at h2; split at h2; assumption; split at h2 <;> cases h2
   rw [ZcG z1,ZcG z2]; rfl
  ·rw [if_neg h2]
   have n1 : a.m≠0:=by intro h; apply h2; simp [sgnD,h]
   have n2 : b.m≠0:=by intro h; apply h2; rw [h1]; simp [sgnD,h]
   have la:=ha.resolve_left n1
   have lb:=hb.resolve_left n2
   have hs : a.n = b.n:=by
    unfold sgnD at h1; rw [if_neg n1,if_neg n2] at h1
    cases h : a.n <;> cases h' : b.n <;> simp_all
   have t1 : topD a = a.e + blen a.m:=by unfold topD; rw [if_neg n1]
   have t2 : topD b = b.e + blen b.m:=by unfold topD; rw [if_neg n2]
   have sg : sgnD a = if a.n then -1 else 1:=by unfold sgnD; rw [if_neg n1]
   by_cases h3 : topD a = topD b
   ·rw [if_neg (by simpa using h3)]
    rw [ZAe _ L,(Zzh ha hb).1]
   ·rw [if_pos h3]
    rw [t1,t2] at *
    rcases Int.lt_or_gt_of_ne h3 with h4 | h4
    ·have:=Zxm n1 n2 la lb h4
     unfold iv sgI
     rw [← hs,sg,decide_eq_true h4]
     generalize a.m * 2 ^ (a.e - L).toNat = X at *
     generalize b.m * 2 ^ (b.e - L).toNat = Y at *
     cases a.n <;> simp <;> omega
    ·have:=Zxm n2 n1 lb la h4
     have h5 : ¬ (a.e + (blen a.m : Int) < b.e + blen b.m):=by omega
     unfold iv sgI
     rw [← hs,sg,decide_eq_false h5]
     generalize a.m * 2 ^ (a.e - L).toNat = X at *
     generalize b.m * 2 ^ (b.e - L).toNat = Y at *
     cases a.n <;> simp <;> omega
 ·rw [if_pos (by simpa using h1)]
  rw [sa,sb] at *
  unfold sgI at *
  generalize iv a L = x at *
  generalize iv b L = y at *
  by_cases x1 : x < 0 <;> by_cases x2 : 0 < x <;> by_cases y1 : y < 0 <;> by_cases y2 : 0 < y <;> simp_all <;> omega
theorem ZoV (J : Al G T g) {z : Bool} {d : Dy} (he : -4398046511104 < d.e∧d.e < 4398046511104) : run G T 71 [DyA z d] = some (DyA z (shD d (-1))):=by
 rw [Zab G T J.E.ZoV]
 have h1:=Zez (G:=G) J (z:=z) (d:=d) (k := -1) (by omega) he
 simp only [DyA,A3] at *
 repeat' (first | simp only [seval,exC,ZiV,h1] | simp (disch:=omega) only [dxB])
theorem ZoU (J : Al G T g) (F : Fm) {m : Int} (hm : 1≤m∧m≤5) {neg : Bool} : run G T 10 [.int .u8 F.u,.int .u8 m,.bool neg] = some (.int .u64 (ovr F m neg : Int)):=by
 rw [Zab G T J.E.ZoU]
 have h1:=ZgU (G:=G) J F (n:=neg)
 have hb : 1≤F.inf neg∧F.inf neg < 18446744073709551616:=by cases F <;> cases neg <;> decide
 have h2 : ((F.inf neg : Int) - 1) % 18446744073709551616 = ((F.inf neg - 1 : Nat) : Int):=by omega
 cases neg
 ·repeat' (first|simp (maxSteps:=9^7) only [seval,exC,ZgK,h1,h2]|simp (maxSteps:=9^7) (disch:=first|with_reducible assumption|omega) only [dxB]|(simp only [kdB];split)|(simp only [kvB];split))
  all_goals simp_all [ovr]
 ·repeat' (first|simp (maxSteps:=9^7) only [seval,exC,ZgK,h1,h2]|simp (maxSteps:=9^7) (disch:=first|with_reducible assumption|omega) only [dxB]|(simp only [kdB];split)|(simp only [kvB];split))
  all_goals simp_all [ovr]
theorem ZGR {a b : Nat} : dl a = dl b↔a = b:=⟨fun h => by rw [← ZaE a,h,ZaE],fun h => by rw [h]⟩
def sameD (a b : Dy) : Prop:=a.n = b.n∧a.e = b.e∧a.m = b.m
instance (a b : Dy) : Decidable (sameD a b):=inferInstanceAs (Decidable (_∧_∧_))
theorem ZvE (J : Al G T g) {z y : Bool} {a b : Dy} (hs : (dl a.m).length < 1099511627776) : run G T 14 [DyA z a,DyA y b] = some (.bool (decide (sameD a b))):=by
 have h:=ZoT J (n:=a.n) (n':=b.n) (z:=z) (z':=y) (l:=dl a.m) (l':=dl b.m) (e:=a.e) (e':=b.e) hs
 simp only [ZGR] at h
 exact h
theorem Bd.mono {d : Dy} {K L : Nat} (h : Bd d K) (hl : K≤L) : Bd d L:=⟨by have:=h.bl; omega,by have:=h.lo; omega,by have:=h.hi; omega⟩
theorem Zpv {n : Bool} {m : Nat} {e : Int} {K : Nat} (h1 : blen m≤K) (h2 : -(K : Int)≤e) (h3 : e + blen m≤K) : Bd (mkD n m e) K:=by
 by_cases h : m = 0
 ·subst h; rw [ZdN]; exact ⟨by simp only [Zag]; omega,by simp only; omega,by simp only; omega⟩
 ·rw [Zal h]
  have:=Zhi h
  exact ⟨by simp only [Zaj]; omega,by simp only; omega,by simp only; omega⟩
theorem ZCW {n : Int} {K : Nat} (h : -(K : Int)≤n∧n≤K) (h1 : 1≤K) : Bd (twoD n) K:=⟨by show blen 1≤K; rw [show blen 1 = 1 from rfl]; exact h1,h.1,h.2⟩
theorem ZAG {d : Dy} {K : Nat} {k : Int} (h : Bd d K) {L : Nat} (h1 : -(L : Int)≤k∧k≤L) : Bd (shD d k) (K + L):=by
 obtain ⟨a,b,c⟩:=h
 unfold shD; split
 ·exact ⟨by omega,by omega,by omega⟩
 ·exact ⟨by simp only; omega,by simp only; omega,by simp only; omega⟩
theorem ZvS {d : Dy} {K : Nat} (h : Bd d K) : Bd (floorD d) (K + 1):=by
 obtain ⟨a,b,c⟩:=h
 unfold floorD; split
 ·exact ⟨by omega,by omega,by omega⟩
 ·have h1:=Zne (d.m / 2 ^ (-d.e).toNat) (if (d.n && !decide (d.m % 2 ^ (-d.e).toNat = 0)) = true then 1 else 0)
  have h2:=Zaj d.m (-d.e).toNat
  have h3 : blen (if (d.n && !decide (d.m % 2 ^ (-d.e).toNat = 0)) = true then 1 else 0)≤1:=by split <;> decide
  by_cases hz : blen d.m = 0
  ·have:=ZtD.1 hz
   rw [this]; simp only [Nat.zero_div,Nat.zero_mod,decide_true,Bool.not_true,Bool.and_false,Bool.false_eq_true,if_false,Nat.add_zero]
   rw [ZdN]; exact ⟨by simp only [Zag]; omega,by simp only; omega,by simp only; omega⟩
  ·exact Zpv (by omega) (by omega) (by omega)
theorem ZhT {a b : Dy} {K : Nat} (ha : Bd a K) (hb : Bd b K) : Bd (addD a b) (4 * K + 1):=by
 obtain ⟨a1,a2,a3⟩:=ha
 obtain ⟨b1,b2,b3⟩:=hb
 unfold addD
 have x1:=ZfP a.m (a.e - min a.e b.e).toNat
 have x2:=ZfP b.m (b.e - min a.e b.e).toNat
 generalize a.m * 2 ^ (a.e - min a.e b.e).toNat = A at *
 generalize b.m * 2 ^ (b.e - min a.e b.e).toNat = B at *
 have s1:=Zne A B
 have s2:=Zap (Nat.sub_le A B)
 have s3:=Zap (Nat.sub_le B A)
 split
 ·exact ⟨by omega,by omega,by omega⟩
 ·split
  ·exact ⟨by omega,by omega,by omega⟩
  ·split
   ·exact Zpv (by omega) (by omega) (by omega)
   ·split
    ·exact Zpv (by omega) (by omega) (by omega)
    ·exact Zpv (by omega) (by omega) (by omega)
theorem ZCV {a b : Dy} {K : Nat} (ha : Bd a K) (hb : Bd b K) : Bd (subD a b) (4 * K + 1):=ZhT ha hb.neg
def lowD (x : Dy) (u : Int) : Dy:=shD (floorD (shD x (-u))) u
def highD (x : Dy) (u : Int) : Dy:=addD (lowD x u) (twoD u)
def evenD (x : Dy) (u : Int) : Prop:=sameD (floorD (shD (shD (lowD x u) (-u)) (-1))) (shD (shD (lowD x u) (-u)) (-1))
instance (x : Dy) (u : Int) : Decidable (evenD x u):=inferInstanceAs (Decidable (sameD _ _))
def takenD (md : Int) (x : Dy) (u : Int) : Dy :=
 if sameD (lowD x u) x then x
 else if md = 5 then lowD x u
 else if md = 4 then highD x u
 else if md = 3 then (if x.n = true then highD x u else lowD x u)
 else if cmpD (subD x (lowD x u)) (subD (highD x u) x) < 0 then lowD x u
 else if 0 < cmpD (subD x (lowD x u)) (subD (highD x u) x) then highD x u
 else if md = 2 then (if x.n = true then lowD x u else highD x u)
 else if evenD x u then lowD x u else highD x u
set_option maxHeartbeats 4000000 in
theorem Zle (J : Al G T g) {md : Int} {z : Bool} {x : Dy} {u : Int} (hx : Bd x 268435456) (hu : -268435456≤u∧u≤268435456) :
  ∃ z',run G T 34 [.int .u8 md,DyA z x,.int .i64 u] = some (DyA z' (takenD md x u)):=by
 apply exP
 rw [Zab G T J.E.Zle]
 have bA:=ZAG hx (k := -u) (L:=268435456) (by omega)
 have bB:=ZvS bA
 have bL : Bd (lowD x u) 1073741824:=(ZAG bB (k:=u) (L:=268435456) hu).mono (by decide)
 have bT : Bd (twoD u) 1073741824:=ZCW (by omega) (by decide)
 have bH : Bd (highD x u) 5368709120:=(ZhT bL bT).mono (by decide)
 have bx : Bd x 5368709120:=hx.mono (by decide)
 have bS1:=(ZCV bx (bL.mono (by decide : 1073741824≤5368709120))).mono (by decide : 4 * 5368709120 + 1≤34359738368)
 have bS2:=(ZCV bH bx).mono (by decide : 4 * 5368709120 + 1≤34359738368)
 have bK:=ZAG bL (k := -u) (L:=268435456) (by omega)
 have bK2:=ZAG bK (k := -1) (L:=1) (by omega)
 have len : ∀ {d : Dy} {K : Nat},Bd d K→K < 34359738368→(dl d.m).length < 17179869183:=fun {d K} h hk => by
  have:=Zaa d.m; have:=h.bl; omega
 have s1:=Zez J (z:=z) (d:=x) (k := -u) (by omega) (by have:=hx.lo; have:=hx.hi; omega)
 obtain ⟨z1,s2⟩:=Zld J (z:=z) (d:=shD x (-u)) (len bA (by decide)) (by have:=bA.lo; have:=bA.hi; omega)
 have s3:=Zez J (z:=z1) (d:=floorD (shD x (-u))) (k:=u) (by omega) (by have:=bB.lo; have:=bB.hi; omega)
 have s4:=ZvE J (z:=z1) (y:=z) (a:=lowD x u) (b:=x) (by have:=len bL (by decide); omega)
 have s5:=Zok J (n:=u)
 obtain ⟨z2,s6⟩:=Zef J (z:=z1) (y:=false) (bL.mono (by decide)) (bT.mono (by decide))
 obtain ⟨z3,s7⟩:=Zkd J (z:=z) (y:=z1) (a:=x) (b:=lowD x u) (bx.mono (by decide)) (bL.mono (by decide))
 obtain ⟨z4,s8⟩:=Zkd J (z:=z2) (y:=z) (a:=highD x u) (b:=x) (bH.mono (by decide)) (bx.mono (by decide))
 have s9:=Zog J (z:=z3) (y:=z4) bS1 bS2
 have s10:=Zez J (z:=z1) (d:=lowD x u) (k := -u) (by omega) (by have:=bL.lo; have:=bL.hi; omega)
 have s11:=ZoV J (z:=z1) (d:=shD (lowD x u) (-u)) (by have:=bK.lo; have:=bK.hi; omega)
 obtain ⟨z5,s12⟩:=Zld J (z:=z1) (d:=shD (shD (lowD x u) (-u)) (-1)) (len bK2 (by decide)) (by have:=bK2.lo; have:=bK2.hi; omega)
 have s13:=ZvE J (z:=z5) (y:=z1) (a:=floorD (shD (shD (lowD x u) (-u)) (-1))) (b:=shD (shD (lowD x u) (-u)) (-1)) (by have:=len (ZvS bK2) (by decide); omega)
 clear bA bB bL bT bH bx bS1 bS2 bK bK2 len
 change run G T _ _ = some (DyA z1 (lowD x u)) at s3
 change run G T _ _ = some (DyA z2 (highD x u)) at s6
 change run G T _ _ = some (AV.bool (decide (evenD x u))) at s13
 obtain ⟨n,m,e⟩:=x
 cases n
 all_goals
  simp only [DyA,A3] at *
  repeat' (first|simp (maxSteps:=9^7) only [seval,exC,ZhD,s1,s2,s3,s4,s5,s6,s7,s8,s9,s10,s11,s12,s13,Int.zero_sub]|simp (maxSteps:=9^7) (disch:=first|with_reducible assumption|omega) only [dxB]|(simp only [kdB];split)|(simp only [kvB];split))
  all_goals clear s1 s2 s3 s4 s5 s6 s7 s8 s9 s10 s11 s12 s13
  all_goals unfold takenD
  all_goals repeat (first | rw [if_pos (by first | assumption | decide)] | rw [if_neg (by first | assumption | decide)])
  all_goals first
   | exact Post.some ⟨z,rfl⟩
   | exact Post.some ⟨z1,rfl⟩
   | exact Post.some ⟨z2,rfl⟩
def Nz (d : Dy) : Prop:=(d.m = 0→d = ⟨false,0,0⟩)∧(d.m≠0→d.m % 2 = 1)
theorem ZpZ (n : Bool) (m : Nat) (e : Int) : Nz (mkD n m e):=by
 by_cases h : m = 0
 ·subst h; rw [ZdN]; exact ⟨fun _ => rfl,fun h => absurd rfl h⟩
 ·have h0:=ZlH (n:=n) h e
  refine ⟨fun h1 => absurd h1 h0,fun _ => ?_⟩
  rw [Zal h]; exact (ZfL h).2
theorem ZrK {d : Dy} (h : Nz d) : Nz (negD d):=by
 unfold negD; split
 ·exact h
 ·next h0 => exact ⟨fun h1 => absurd h1 h0,h.2⟩
theorem ZnE {a b : Dy} (ha : Nz a) (hb : Nz b) : Nz (addD a b):=by
 unfold addD; split
 ·exact hb
 ·split
  ·exact ha
  ·split
   ·exact ZpZ ..
   ·split <;> exact ZpZ ..
theorem ZGt (n : Int) : Nz (twoD n):=⟨fun h => Nat.noConfusion h,fun _ => rfl⟩
theorem ZHN {a b : Dy} {L : Int} (ha : Nz a) (hb : Nz b) (la : LoE a L) (lb : LoE b L) (h : iv a L = iv b L) : a = b:=by
 have hp:=fun d : Dy => Nat.two_pow_pos (d.e - L).toNat
 by_cases h0 : a.m = 0
 ·have h1 : b.m = 0:=by
   rw [ZcG h0] at h
   unfold iv at h
   have h2:=hp b
   rcases Nat.eq_zero_or_pos (b.m * 2 ^ (b.e - L).toNat) with h3 | h3
   ·rcases Nat.mul_eq_zero.1 h3 with h4 | h4
    ·exact h4
    ·omega
   ·exfalso
    generalize b.m * 2 ^ (b.e - L).toNat = X at *
    cases hb : b.n <;> simp [hb] at h <;> omega
  rw [ha.1 h0,hb.1 h1]
 ·have h1 : b.m≠0:=by
   intro h1
   rw [ZcG h1] at h
   unfold iv at h
   have h3:=Nat.mul_pos (Nat.pos_of_ne_zero h0) (hp a)
   generalize a.m * 2 ^ (a.e - L).toNat = X at *
   cases hb : a.n <;> simp [hb] at h <;> omega
  have p1:=Nat.mul_pos (Nat.pos_of_ne_zero h0) (hp a)
  have p2:=Nat.mul_pos (Nat.pos_of_ne_zero h1) (hp b)
  unfold iv at h
  have hX : a.m * 2 ^ (a.e - L).toNat = b.m * 2 ^ (b.e - L).toNat∧a.n = b.n:=by
   generalize a.m * 2 ^ (a.e - L).toNat = X at *
   generalize b.m * 2 ^ (b.e - L).toNat = Y at *
   cases ha : a.n <;> cases hb : b.n <;> simp [ha,hb] at h ⊢ <;> omega
  obtain ⟨hX,hn⟩:=hX
  have t1:=ZfM (k:=(a.e - L).toNat) (ha.2 h0)
  have t2:=ZfM (k:=(b.e - L).toNat) (hb.2 h1)
  rw [hX,t2] at t1
  have l1:=la.resolve_left h0
  have l2:=lb.resolve_left h1
  have he : a.e = b.e:=by omega
  rw [he] at hX
  have hm:=Nat.eq_of_mul_eq_mul_right (hp b) hX
  obtain ⟨n,m,e⟩:=a
  obtain ⟨n',m',e'⟩:=b
  simp only at *
  subst he hm hn; rfl
theorem ZvF {x : Int} : sgI x < 0↔x < 0:=by unfold sgI; split <;> (try split) <;> omega
theorem ZvG {x : Int} : 0 < sgI x↔0 < x:=by unfold sgI; split <;> (try split) <;> omega
theorem ZIr (n : Bool) (f : Nat) (e u : Int) : shD (mkD n f e) u = mkD n f (e + u)∨f = 0:=by
 by_cases h : f = 0
 ·exact Or.inr h
 ·left
  have:=ZlH (n:=n) h e
  unfold shD; rw [if_neg this,Zal h,Zal h]; simp only [Dy.mk.injEq,true_and]; omega
theorem ZIs (n : Bool) (f : Nat) (u : Int) : shD (mkD n f 0) u = mkD n f u:=by
 rcases ZIr n f 0 u with h | h
 ·rw [h,Int.zero_add]
 ·subst h; rfl
theorem ZlD (m : Nat) {k : Nat} (hk : 0 < k) : m % 2 ^ k = (if halfN m k then 2 ^ (k - 1) else 0) + m % 2 ^ (k - 1)∧m % 2 ^ (k - 1) < 2 ^ (k - 1)∧2 ^ k = 2 * 2 ^ (k - 1):=by
 obtain ⟨i,rfl⟩ : ∃ i,k = i + 1:=⟨k - 1,by omega⟩
 refine ⟨?_,Nat.mod_lt _ (Nat.two_pow_pos _),by rw [Nat.add_sub_cancel,Nat.pow_succ]; omega⟩
 rw [Nat.pow_succ,Nat.mod_mul,Nat.add_sub_cancel]
 simp only [halfN,Nat.add_sub_cancel]
 have : m / 2 ^ i % 2 = 0∨m / 2 ^ i % 2 = 1:=by omega
 rcases this with h | h <;> simp [h] <;> omega
theorem Zzx {m k : Nat} (ho : m % 2 = 1) (hk : 0 < k) : m % 2 ^ k≠0:=by
 obtain ⟨i,rfl⟩ : ∃ i,k = i + 1:=⟨k - 1,by omega⟩
 intro h
 have : m % 2 ^ (i + 1) % 2 = m % 2:=Nat.mod_mod_of_dvd _ ⟨2 ^ i,by rw [Nat.pow_succ]; omega⟩
 omega
theorem ZEz (n : Bool) (f : Nat) : sameD (floorD (shD (mkD n f 0) (-1))) (shD (mkD n f 0) (-1))↔f % 2 = 0:=by
 by_cases h : f = 0
 ·subst h; rw [ZdN]; exact ⟨fun _ => rfl,fun _ => ⟨rfl,rfl,rfl⟩⟩
 ·have h0:=ZlH (n:=n) h 0
  have e1 : shD (mkD n f 0) (-1) = ⟨n,f / 2 ^ tz f,tz f - 1⟩:=by
   unfold shD; rw [if_neg h0,Zal h]; simp only [Dy.mk.injEq,true_and]; omega
  rw [e1]
  rcases Nat.mod_two_eq_zero_or_one f with h2 | h2
  ·have ht:=ZvN h h2
   have : floorD ⟨n,f / 2 ^ tz f,tz f - 1⟩ = ⟨n,f / 2 ^ tz f,tz f - 1⟩:=by unfold floorD; rw [if_pos (by simp only; omega)]
   rw [this]; exact ⟨fun _ => h2,fun _ => ⟨rfl,rfl,rfl⟩⟩
  ·have ht:=ZuV h2
   constructor
   ·intro hs
    exfalso
    unfold floorD at hs
    rw [if_neg (by simp only; omega)] at hs
    obtain ⟨_,h3,h4⟩:=hs
    simp only [ht] at h3 h4
    generalize hF : f / 2 ^ 0 / 2 ^ (-((0 : Nat) - 1 : Int)).toNat + (if (n && !decide (f / 2 ^ 0 % 2 ^ (-((0 : Nat) - 1 : Int)).toNat = 0)) = true then 1 else 0) = Q at *
    by_cases hq : Q = 0
    ·rw [hq,ZdN] at h3; simp at h3
    ·rw [Zal hq] at h3; simp only at h3; omega
   ·intro h3; omega
theorem ZwE {x : Dy} {u : Int} (ho : x.m % 2 = 1) (hu : x.e < u) : lowD x u = mkD x.n (x.m / 2 ^ (u - x.e).toNat + x.n.toNat) u:=by
 have h0 : x.m≠0:=by intro h; rw [h] at ho; cases ho
 have e1 : shD x (-u) = ⟨x.n,x.m,x.e - u⟩:=by unfold shD; rw [if_neg h0]; rfl
 unfold lowD
 rw [e1]
 unfold floorD
 rw [if_neg (by simp only; omega),ZIs]
 simp only
 rw [show (-(x.e - u)).toNat = (u - x.e).toNat by omega,decide_eq_false (Zzx ho (by omega))]
 cases x.n <;> rfl
theorem Zzr {x : Dy} {u : Int} (ho : x.m % 2 = 1) (hu : u≤x.e) : lowD x u = x:=by
 have h0 : x.m≠0:=by intro h; rw [h] at ho; cases ho
 have e1 : shD x (-u) = ⟨x.n,x.m,x.e - u⟩:=by unfold shD; rw [if_neg h0]; rfl
 unfold lowD
 rw [e1]
 unfold floorD
 rw [if_pos (by simp only; omega)]
 unfold shD
 rw [if_neg h0]
 obtain ⟨n,m,e⟩:=x
 simp only [Dy.mk.injEq,true_and]; omega
theorem Zvl {x : Dy} {u : Int} (ho : x.m % 2 = 1) (hu : x.e < u) : highD x u = mkD x.n (if x.n then x.m / 2 ^ (u - x.e).toNat else x.m / 2 ^ (u - x.e).toNat + 1) u:=by
 unfold highD
 rw [ZwE ho hu]
 have l1 : LoE (mkD x.n (x.m / 2 ^ (u - x.e).toNat + x.n.toNat) u) u:=ZmT (Int.le_refl _)
 have l2 : LoE (twoD u) u:=Or.inr (Int.le_refl _)
 have ha:=Zzg l1 l2
 refine ZHN (L:=u) (ZnE (ZpZ ..) (ZGt u)) (ZpZ ..) ha.2 (ZmT (Int.le_refl _)) ?_
 rw [ha.1,ZrA (Int.le_refl _),ZrA (Int.le_refl _),ZHh]
 cases x.n <;> simp [Int.sub_self] <;> omega
theorem ZGM {x : Dy} {u : Int} (ho : x.m % 2 = 1) (hu : x.e < u) : cmpD (subD x (lowD x u)) (subD (highD x u) x) =
  sgI ((if x.n then -1 else 1) * (2 * ((x.m % 2 ^ (u - x.e).toNat : Nat) : Int) - ((2 ^ (u - x.e).toNat : Nat) : Int))):=by
 have lx : LoE x x.e:=Or.inr (Int.le_refl _)
 have ll : LoE (lowD x u) x.e:=by rw [ZwE ho hu]; exact ZmT (by omega)
 have lh : LoE (highD x u) x.e:=by rw [Zvl ho hu]; exact ZmT (by omega)
 have s1:=Zzh lx ll
 have s2:=Zzh lh lx
 rw [Zpo s1.2 s2.2,s1.1,s2.1,ZwE ho hu,Zvl ho hu,ZrA (by omega),ZrA (by omega)]
 have hx : iv x x.e = (if x.n then -1 else 1) * (x.m : Int):=by unfold iv; rw [Int.sub_self]; simp
 rw [hx]
 have hd:=Nat.div_add_mod x.m (2 ^ (u - x.e).toNat)
 congr 1
 generalize 2 ^ (u - x.e).toNat = P at *
 have e1 : (x.m : Int) = (P : Int) * ((x.m / P : Nat) : Int) + ((x.m % P : Nat) : Int):=by rw [← Int.natCast_mul,← Int.natCast_add,hd]
 generalize x.m % P = R at *
 generalize x.m / P = W at *
 rw [e1]
 have e2 : ((W * P : Nat) : Int) = (P : Int) * (W : Int):=by rw [Int.natCast_mul,Int.mul_comm]
 have e3 : (((W + 1) * P : Nat) : Int) = (P : Int) * (W : Int) + P:=by rw [Nat.add_mul,Nat.one_mul,Int.natCast_add,e2]
 cases x.n
 ·simp only [Bool.false_eq_true,if_false,Bool.toNat_false,Nat.add_zero,Int.one_mul,e2,e3]; generalize (P : Int) * (W : Int) = Q; omega
 ·simp only [if_true,Bool.toNat_true,e2,e3]; generalize (P : Int) * (W : Int) = Q; omega
theorem ZuS {md : Int} {x : Dy} {u : Int} (hm : 1≤md∧md≤5) (ho : x.m % 2 = 1) :
  takenD md x u = mkD x.n (rnd md x.n x.m x.e u).1 u∧(sameD x (takenD md x u)↔(rnd md x.n x.m x.e u).2 = true):=by
 have h0 : x.m≠0:=by intro h; rw [h] at ho; cases ho
 by_cases hu : u≤x.e
 ·have hl:=Zzr ho hu
  have ht : takenD md x u = x:=by unfold takenD; rw [if_pos (by rw [hl]; exact ⟨rfl,rfl,rfl⟩)]
  have hr : rnd md x.n x.m x.e u = (x.m * 2 ^ (x.e - u).toNat,true):=by unfold rnd; rw [if_pos hu]
  rw [ht,hr]
  refine ⟨?_,⟨fun _ => rfl,fun _ => ⟨rfl,rfl,rfl⟩⟩⟩
  have hne : x.m * 2 ^ (x.e - u).toNat≠0:=by have:=Nat.mul_pos (Nat.pos_of_ne_zero h0) (Nat.two_pow_pos (x.e - u).toNat); omega
  rw [Zal hne,ZfM ho,Nat.mul_div_cancel _ (Nat.two_pow_pos _)]
  obtain ⟨n,m,e⟩:=x
  simp only [Dy.mk.injEq,true_and]
  simp only at hu; omega
 ·have hu : x.e < u:=by omega
  have hl:=ZwE ho hu
  have hh:=Zvl ho hu
  have hc:=ZGM ho hu
  have hns : ∀ f,¬ sameD (mkD x.n f u) x:=by
   rintro f ⟨_,h1,h2⟩
   by_cases hf : f = 0
   ·subst hf; rw [ZdN] at h2; exact h0 h2.symm
   ·rw [Zal hf] at h1; simp only at h1; omega
  have hsy : ∀ a b,sameD a b→sameD b a:=fun a b ⟨p,q,r⟩ => ⟨p.symm,q.symm,r.symm⟩
  have hev : evenD x u↔(x.m / 2 ^ (u - x.e).toNat + x.n.toNat) % 2 = 0:=by
   have e1 : shD (lowD x u) (-u) = mkD x.n (x.m / 2 ^ (u - x.e).toNat + x.n.toNat) 0:=by
    rw [hl]
    rcases ZIr x.n (x.m / 2 ^ (u - x.e).toNat + x.n.toNat) u (-u) with h | h
    ·rw [h]; congr 1; omega
    ·rw [h]; rfl
   unfold evenD
   rw [e1]; exact ZEz ..
  have hk : 0 < (u - x.e).toNat:=by omega
  obtain ⟨q1,q2,q3⟩:=ZlD x.m hk
  have q4:=Zzx ho hk
  have hr : rnd md x.n x.m x.e u = rdN md x.n x.m false (u - x.e).toNat:=by unfold rnd; rw [if_neg (by omega)]
  rw [hr]
  have main : takenD md x u = mkD x.n (rdN md x.n x.m false (u - x.e).toNat).1 u:=by
   unfold takenD
   rw [if_neg (by rw [hl]; exact hns _)]
   simp only [hc,hev]
   rw [hl,hh]
   simp only [rdN]
   have hmo : moreN x.m false (u - x.e).toNat = decide (x.m % 2 ^ ((u - x.e).toNat - 1)≠0):=by simp [moreN]
   rw [hmo]
   generalize halfN x.m (u - x.e).toNat = hf at *
   generalize x.m % 2 ^ ((u - x.e).toNat - 1) = S at *
   generalize x.m % 2 ^ (u - x.e).toNat = R at *
   generalize x.m / 2 ^ (u - x.e).toNat = W at *
   rw [q3]
   generalize 2 ^ ((u - x.e).toNat - 1) = P at *
   have hmd : md = 1∨md = 2∨md = 3∨md = 4∨md = 5:=by omega
   simp only [ZvF,ZvG]
   rcases Nat.mod_two_eq_zero_or_one W with hW | hW <;> cases hn : x.n <;> cases hf <;> by_cases hS : S = 0 <;> rcases hmd with rfl | rfl | rfl | rfl | rfl <;>
    simp [upB,hS,hW] at q1 q4 ⊢ <;> (try omega) <;> (repeat (first | rw [if_pos (by omega)] | rw [if_neg (by omega)])) <;> (try (intro _; rfl))
  refine ⟨main,?_⟩
  constructor
  ·intro hs; rw [main] at hs; exact absurd (hsy _ _ hs) (hns _)
  ·intro hs
   exfalso
   simp only [rdN,moreN,Bool.false_or,Bool.and_eq_true,Bool.not_eq_true',decide_eq_false_iff_not,ne_eq,Decidable.not_not] at hs
   rw [hs.1,hs.2] at q1
   simp at q1; exact q4 q1
theorem Zor (F : Fm) {md : Int} {d : Dy} (h : d.m≠0) : (rnd md d.n d.m d.e (F.eOf (d.e + blen d.m))).1≤2 ^ (F.fr + 1) ∧
  (F.eOf (d.e + blen d.m) = F.low∨2 ^ F.fr≤(rnd md d.n d.m d.e (F.eOf (d.e + blen d.m))).1) ∧
  (rnd md d.n d.m d.e (d.e + blen d.m - F.fr - 1)).1≤2 ^ (F.fr + 1)∧2 ^ F.fr≤(rnd md d.n d.m d.e (d.e + blen d.m - F.fr - 1)).1:=by
 have hF:=ZbH F
 have hw:=Zmz h
 have e1:=ZpK md d.n h d.e (F.eOf (d.e + blen d.m)) (by unfold Fm.eOf; omega)
 have e2:=ZpK md d.n h d.e (d.e + blen d.m - F.fr - 1) (by omega)
 have hE : F.eOf (d.e + blen d.m) = max (d.e + blen d.m - F.fr - 1) F.low:=rfl
 change rdN md d.n (headN d.m) (behindN d.m) _ = _ at e1 e2
 rw [← e1,← e2]
 rw [show (d.e + (blen d.m : Int) - F.fr - 1 - (d.e + blen d.m) + 64).toNat = 63 - F.fr by omega]
 refine ⟨ZwR hw (by omega),?_,ZwR hw (by omega),?_⟩
 ·by_cases hl : F.eOf (d.e + blen d.m) = F.low
  ·exact Or.inl hl
  ·right
   rw [show (F.eOf (d.e + (blen d.m : Int)) - (d.e + blen d.m) + 64).toNat = 63 - F.fr by omega]
   have:=ZzK (md:=md) (neg:=d.n) (more:=behindN d.m) hw (k:=63 - F.fr) (by omega)
   rwa [show 63 - (63 - F.fr) = F.fr by omega] at this
 ·have:=ZzK (md:=md) (neg:=d.n) (more:=behindN d.m) hw (k:=63 - F.fr) (by omega)
  rwa [show 63 - (63 - F.fr) = F.fr by omega] at this
theorem ZGu (n : Bool) (m : Nat) (e : Int) : absD (mkD n m e) = mkD false m e:=by
 by_cases h : m = 0
 ·subst h; rfl
 ·rw [Zal h,Zal h]; rfl
theorem ZAv {n : Bool} {m : Nat} (h : m≠0) (e : Int) : topD (mkD n m e) = e + blen m:=by
 unfold topD; rw [if_neg (ZlH h e),ZpH h]
theorem Zta (J : Al G T g) (F : Fm) {z : Bool} : run G T 36 [.int .u8 F.u,DyA z ⟨false,0,0⟩] = some (.tup [.int .u64 0,.bool true]):=by
 rw [Zab G T J.D.ZpN]
 have h1:=Zbi J (z:=z) (d:=⟨false,0,0⟩)
 rw [show sgnD ⟨false,0,0⟩ = 0 from rfl] at h1
 simp only [DyA,A3] at *
 repeat' (first | simp only [seval,exC,ZbL,h1] | simp (disch:=omega) only [dxB])
theorem Zvv (J : Al G T g) (F : Fm) {z : Bool} {n : Nat} {e : Int} (h1 : n≤2 ^ (F.fr + 1)) (h2 : F.low≤e) (h3 : blen n + e≤F.wide) (h4 : e = F.low∨2 ^ F.fr≤n) :
  run G T 36 [.int .u8 F.u,DyA z (mkD false n e)] = some (.tup [.int .u64 ((F.enc n e : Nat) : Int),.bool true]):=by
 by_cases h0 : n = 0
 ·subst h0
  have : e = F.low:=by
   rcases h4 with h | h
   ·exact h
   ·have:=Nat.two_pow_pos F.fr; omega
  rw [ZdN,this,Zta J F]
  simp [Fm.enc]
 ·have hf:=ZmB (F:=F) (neg:=false) h0 h1 h2 (by omega)
  rw [ZpN J F (z:=z) hf,ZsH h0 h1 h2 h4,ZEZ h0]
  simp [Fm.sgn]
theorem ZGU {F : Fm} {n : Nat} {e : Int} (h1 : n≤2 ^ (F.fr + 1)) (h2 : F.low≤e) (h3 : blen n + e≤F.wide) (h4 : e = F.low∨2 ^ F.fr≤n) : F.enc n e < F.sg:=by
 by_cases h0 : n = 0
 ·subst h0
  have : e = F.low:=by
   rcases h4 with h | h
   ·exact h
   ·have:=Nat.two_pow_pos F.fr; omega
  rw [this]; simp only [Fm.enc,Int.sub_self]; cases F <;> decide
 ·have h:=Zwn (ZmB (F:=F) (neg:=false) h0 h1 h2 (by omega))
  rw [ZsH h0 h1 h2 h4] at h
  have hb64 : F.most * 2 ^ F.fr≤F.sg:=by cases F <;> decide
  omega
set_option maxRecDepth 4000 in
set_option maxHeartbeats 4000000 in
theorem Zdw (J : Al G T g) (F : Fm) {m : Int} (hm : 1≤m∧m≤5) {z : Bool} {x : Dy} (hx : Nz x) (hb : Bd x 134217728) :
  run G T 12 [.int .u8 F.u,.int .u8 m,DyA z x] = some (.tup [.int .u64 ((rndW F m x).1 : Int),.int .u8 ((rndW F m x).2 : Int)]):=by
 rw [Zab G T J.E.Zdw]
 have s1:=Zbi J (z:=z) (d:=x)
 by_cases h0 : x.m = 0
 ·rw [show sgnD x = 0 by simp [sgnD,h0]] at s1
  simp only [rndW,if_pos h0]
  simp only [DyA,A3] at *
  repeat' (first|simp (maxSteps:=9^7) only [seval,exC,Zbt,s1]|simp (maxSteps:=9^7) (disch:=first|with_reducible assumption|omega) only [dxB]|(simp only [kdB];split)|(simp only [kvB];split))
  all_goals rfl
 ·have hs : ¬ sgnD x = 0:=by simp only [sgnD,if_neg h0]; split <;> decide
  have ho:=hx.2 h0
  have hF:=ZbH F
  obtain ⟨hb1,hb2,hb3⟩:=hb
  have hl:=Zaa x.m
  have s2:=ZfI J (z:=z) (d:=x) (by omega) (by omega)
  rw [show topD x = x.e + blen x.m by simp [topD,h0]] at s2
  have hU : x.e + (blen x.m : Int) - (F.fr + 1) = x.e + blen x.m - F.fr - 1:=by omega
  have hE : F.eOf (x.e + blen x.m) = max (x.e + blen x.m - F.fr - 1) F.low:=rfl
  obtain ⟨r1,r2,r3,r4⟩:=Zor F (md:=m) h0
  have hp : 2 ^ (F.fr + 1)≤9007199254740992:=by cases F <;> decide
  have f1:=ZdO J F
  have f2:=ZlR J F
  have f3:=ZmF J F
  obtain ⟨z1,t1⟩:=Zle J (md:=m) (z:=z) (x:=x) (u:=F.eOf (x.e + blen x.m)) ⟨by omega,by omega,by omega⟩ (by omega)
  obtain ⟨z2,t2⟩:=Zle J (md:=m) (z:=z) (x:=x) (u:=x.e + blen x.m - F.fr - 1) ⟨by omega,by omega,by omega⟩ (by omega)
  obtain ⟨e1,e2⟩:=ZuS (u:=F.eOf (x.e + blen x.m)) hm ho
  have e3:=(ZuS (u:=x.e + blen x.m - F.fr - 1) hm ho).1
  have c1:=ZvE J (z:=z) (y:=z1) (a:=x) (b:=takenD m x (F.eOf (x.e + blen x.m))) (by omega)
  have e2' : decide (sameD x (takenD m x (F.eOf (x.e + blen x.m)))) = (rnd m x.n x.m x.e (F.eOf (x.e + blen x.m))).2:=by
   rw [Bool.eq_iff_iff,decide_eq_true_eq]; exact e2
  rw [e2'] at c1
  rw [e1] at t1 c1
  rw [e3] at t2
  have o1:=ZoU J F hm (neg:=x.n)
  have hrw : rndW F m x = wordOf F m x.n (rnd m x.n x.m x.e (F.eOf (x.e + blen x.m))).1 (rnd m x.n x.m x.e (F.eOf (x.e + blen x.m))).2 (F.eOf (x.e + blen x.m)) (x.e + blen x.m) (rnd m x.n x.m x.e (x.e + blen x.m - F.fr - 1)).1:=by
   simp only [rndW,if_neg h0]
  rw [hrw]
  have hnf : F.eOf (x.e + blen x.m) = x.e + blen x.m - F.fr - 1→(rnd m x.n x.m x.e (F.eOf (x.e + blen x.m))).1 = (rnd m x.n x.m x.e (x.e + blen x.m - F.fr - 1)).1:=fun h => by rw [h]
  clear e1 e2 e3 e2' hrw
  generalize rnd m x.n x.m x.e (F.eOf (x.e + blen x.m)) = R at *
  generalize rnd m x.n x.m x.e (x.e + blen x.m - F.fr - 1) = R2 at *
  obtain ⟨n,ex⟩:=R
  obtain ⟨fine,ex2⟩:=R2
  simp only at *
  have q1 : blen n≤54:=Zaf.2 (by omega)
  have q2 : blen fine≤54:=Zaf.2 (by omega)
  have hfn : fine≠0:=by have:=Nat.two_pow_pos F.fr; omega
  have lf:=Zaa (mkD x.n fine (x.e + blen x.m - F.fr - 1)).m
  have bf : Bd (mkD x.n fine (x.e + blen x.m - F.fr - 1)) 536870912:=Zpv (by omega) (by omega) (by omega)
  have bn : Bd (mkD x.n n (F.eOf (x.e + blen x.m))) 536870912:=Zpv (by omega) (by omega) (by omega)
  have ln:=Zaa (mkD x.n n (F.eOf (x.e + blen x.m))).m
  have p1:=ZfI J (z:=z1) (d:=mkD x.n n (F.eOf (x.e + blen x.m))) (by have:=bn.bl; omega) (by have:=bn.lo; have:=bn.hi; omega)
  have p2:=ZfI J (z:=z2) (d:=mkD x.n fine (x.e + blen x.m - F.fr - 1)) (by have:=bf.bl; omega) (by have:=bf.lo; have:=bf.hi; omega)
  rw [ZAv hfn] at p2
  have a1:=ZqV J (z:=z1) (d:=mkD x.n n (F.eOf (x.e + blen x.m)))
  rw [ZGu] at a1
  have sd:=Zbe J F (n:=x.n) (w:=F.enc n (F.eOf (x.e + blen x.m)))
  have of:=fun h => Zvv J F (z:=z1) (n:=n) (e:=F.eOf (x.e + blen x.m)) r1 (by omega) h r2
  have es:=fun h => ZGU (F:=F) (n:=n) (e:=F.eOf (x.e + blen x.m)) r1 (by omega) h r2
  have hT0 : topD (mkD x.n n (F.eOf (x.e + blen x.m))) = if n = 0 then 0 else F.eOf (x.e + blen x.m) + blen n:=by
   by_cases hn : n = 0
   ·subst hn; rw [ZdN]; rfl
   ·rw [ZAv hn,if_neg hn]
  rw [hT0] at p1
  have hov : (F.wide < if n = 0 then 0 else F.eOf (x.e + blen x.m) + blen n)↔F.wide < blen n + F.eOf (x.e + blen x.m):=by
   by_cases hn : n = 0
   ·subst hn; rw [if_pos rfl,Zag]
    have : F.eOf (x.e + blen x.m) = F.low:=by
     rcases r2 with h | h
     ·exact h
     ·have:=Nat.two_pow_pos F.fr; omega
    omega
   ·rw [if_neg hn]; omega
  have htp : n≠0→(if n = 0 then 0 else F.eOf (x.e + blen x.m) + (blen n : Int)) = F.eOf (x.e + blen x.m) + (blen n : Int):=fun h => if_neg h
  simp only [wordOf]
  generalize (if n = 0 then 0 else F.eOf (x.e + blen x.m) + (blen n : Int)) = tp at *
  generalize F.eOf (x.e + blen x.m) = E at *
  generalize hUU : x.e + (blen x.m : Int) - F.fr - 1 = U at *
  have g1 : 23≤F.fr∧F.fr≤52:=by omega
  have g2 : -1074≤F.low∧F.low≤-149:=by omega
  have g3 : 128≤F.wide∧F.wide≤1024:=by omega
  have g4 : -1074≤E∧E≤268435456:=by omega
  have g5 : -268435456≤U∧U≤268435456:=by omega
  have g6 : U < F.low∧E = F.low∨¬ U < F.low∧E = U:=by omega
  clear hF hE r1 r2 r3 r4 hp bf bn ln lf hl hT0 ho hx hUU
  by_cases hv : F.wide < blen n + E
  ·rw [if_pos hv]
   have hv2:=hov.2 hv
   clear hov of es
   rcases g6 with ⟨hA,rfl⟩ | ⟨hA,rfl⟩
   ·exfalso; omega
   ·clear htp hnf
    simp only [DyA,A3] at *
    repeat' (first|simp (maxSteps:=9^7) only [seval,exC,Zbt,s1,s2,f1,f2,f3,hU,t1,p1,o1]|simp (maxSteps:=9^7) (disch:=first|with_reducible assumption|omega) only [dxB]|(simp only [kdB];split)|(simp only [kvB];split))
  ·rw [if_neg hv]
   have hv2:=fun h => hv (hov.1 h)
   have hlt:=es (by omega)
   rw [Nat.mod_eq_of_lt hlt] at sd
   have of:=of (by omega)
   have hF2 : U + (blen fine : Int) < F.low + (F.fr + 1)↔(blen fine : Int) + U < F.low + F.fr + 1:=by omega
   cases ex
   ·clear hov es
    rcases g6 with ⟨hA,rfl⟩ | ⟨hA,rfl⟩
    ·clear htp hnf
     simp only [DyA,A3] at *
     repeat' (first|simp (maxSteps:=9^7) only [seval,exC,Zbt,s1,s2,f1,f2,f3,hU,t1,t2,p1,p2,a1,of,sd,c1,hF2]|simp (maxSteps:=9^7) (disch:=first|with_reducible assumption|omega) only [dxB]|(simp only [kdB];split)|(simp only [kvB];split))
     all_goals (try simp only [Bool.false_eq_true,if_false,if_true])
     all_goals first | rfl | (rw [if_pos (by omega)]; rfl) | (rw [if_neg (by omega)]; rfl)
    ·have hn1:=hnf rfl
     subst hn1
     have htp1:=htp hfn
     subst htp1
     clear htp hnf
     simp only [DyA,A3] at *
     repeat' (first|simp (maxSteps:=9^7) only [seval,exC,Zbt,s1,s2,f1,f2,f3,hU,t1,p1,a1,of,sd,c1,hF2]|simp (maxSteps:=9^7) (disch:=first|with_reducible assumption|omega) only [dxB]|(simp only [kdB];split)|(simp only [kvB];split))
     all_goals (try simp only [Bool.false_eq_true,if_false,if_true])
     all_goals first | rfl | (rw [if_pos (by omega)]; rfl) | (rw [if_neg (by omega)]; rfl)
   ·clear hov es
    rcases g6 with ⟨hA,rfl⟩ | ⟨hA,rfl⟩
    ·clear htp hnf
     simp only [DyA,A3] at *
     repeat' (first|simp (maxSteps:=9^7) only [seval,exC,Zbt,s1,s2,f1,f2,f3,hU,t1,t2,p1,p2,a1,of,sd,c1,hF2]|simp (maxSteps:=9^7) (disch:=first|with_reducible assumption|omega) only [dxB]|(simp only [kdB];split)|(simp only [kvB];split))
     all_goals (try simp only [Bool.false_eq_true,if_false,if_true])
     all_goals first | rfl | (rw [if_pos (by omega)]; rfl) | (rw [if_neg (by omega)]; rfl)
    ·have hn1:=hnf rfl
     subst hn1
     have htp1:=htp hfn
     subst htp1
     clear htp hnf
     simp only [DyA,A3] at *
     repeat' (first|simp (maxSteps:=9^7) only [seval,exC,Zbt,s1,s2,f1,f2,f3,hU,t1,p1,a1,of,sd,c1,hF2]|simp (maxSteps:=9^7) (disch:=first|with_reducible assumption|omega) only [dxB]|(simp only [kdB];split)|(simp only [kvB];split))
     all_goals (try simp only [Bool.false_eq_true,if_false,if_true])
     all_goals first | rfl | (rw [if_pos (by omega)]; rfl) | (rw [if_neg (by omega)]; rfl)
theorem Zzu {n : Bool} {m : Nat} {e : Int} (h : mayD n (dl m) e = true) : Nz ⟨n,m,e⟩:=by
 obtain ⟨f1,f2,f3,f4,f5⟩:=Zbx h
 refine ⟨fun h0 => ?_,fun h0 => ?_⟩
 ·simp only at h0; subst h0
  obtain ⟨a,b⟩:=f2 (by rw [Zai]; rfl)
  rw [a,b]
 ·have:=f3 (by rw [ne_eq,Zan]; exact h0)
  rwa [dg0] at this
end Go.Cv
