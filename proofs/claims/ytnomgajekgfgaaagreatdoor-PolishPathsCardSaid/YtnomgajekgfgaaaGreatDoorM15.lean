/-
 A part of the proof of the statements of this seat (texts that the law's own text leans on): no condition.
-/
import Derived.Test.YtnomgajekgfgaaaGreatDoorM14
import Derived.Test.YtnomgajekgfgaaaGreatDoorM6
set_option linter.unusedVariables false
set_option linter.unusedSimpArgs false
namespace Go.Cv
variable {G : Nat→Option (List AV)} {T : Tbl} {g : Nat}
theorem ZJG (F : Fm) {a b : Nat} {L : Int} (la : LoE (F.vl a) L) (lb : LoE (F.vl b) L) : iv (sqD F a b) (2 * L) = iv (F.vl a) L * iv (F.vl a) L + iv (F.vl b) L * iv (F.vl b) L:=by
 obtain ⟨p1,p2⟩:=ZDo la la
 obtain ⟨q1,q2⟩:=ZDo lb lb
 unfold sqD
 rw [show 2 * L = L + L by omega,(Zzg p2 q2).1,p1,q1]
theorem ZaC (J : Al G T g) (F : Fm) {a b : Nat} (ha : a < 2 * F.sg) (hb : b < 2 * F.sg) : run G T 250 [.int .u8 F.u,zA a b] = some (.bool (decide (F.fin a∧F.fin b))):=by
 rw [Zab G T J.J.ZaC]
 have f1:=ZeM J F (ZaP ha)
 have f2:=ZeM J F (ZaP hb)
 simp only [zA]
 by_cases p : F.fin a
 ·rw [decide_eq_true p] at f1
  by_cases q : F.fin b
  ·rw [decide_eq_true q] at f2
   rw [decide_eq_true (show F.fin a∧F.fin b from ⟨p,q⟩)]
   repeat' (first | simp only [seval,exC,ZcN,f1,f2] | simp (disch:=omega) only [dxB])
  ·rw [decide_eq_false q] at f2
   rw [decide_eq_false (show ¬ (F.fin a∧F.fin b) from fun h => q h.2)]
   repeat' (first | simp only [seval,exC,ZcN,f1,f2] | simp (disch:=omega) only [dxB])
 ·rw [decide_eq_false p] at f1
  rw [decide_eq_false (show ¬ (F.fin a∧F.fin b) from fun h => p h.1)]
  repeat' (first | simp only [seval,exC,ZcN,f1] | simp (disch:=omega) only [dxB])
def zrA (p q : Nat × Nat) : AV:=.agg [.int .u64 (p.1 : Int),.int .u64 (q.1 : Int),.int .u8 (p.2 : Int),.int .u8 (q.2 : Int)]
theorem Zrb (J : Al G T g) (F : Fm) {md : Int} (hm : 1≤md∧md≤5) {a b c d : Nat} (ha : a < 2 * F.sg) (hb : b < 2 * F.sg) (hc : c < 2 * F.sg) (hd : d < 2 * F.sg) :
  run G T 251 [.int .u8 F.u,.int .u8 md,zA a b,zA c d] = some (zrA (addW F md a c) (addW F md b d)):=by
 rw [Zab G T J.J.Zrb]
 have r1:=Zeg J F hm ha hc
 have r2:=Zeg J F hm hb hd
 generalize addW F md a c = S1 at *
 generalize addW F md b d = S2 at *
 simp only [zA,zrA]
 repeat' (first | simp only [seval,exC,ZkO,r1,r2] | simp (disch:=omega) only [dxB])
def numA (z : Bool) (x : Dy × Bool) : AV:=.agg [.bool x.1.n,D z (dl x.1.m),.int .i64 x.1.e,.bool x.2]
def tm (F : Fm) (a b : Nat) (minus : Bool) : Dy × Bool:=(if minus then negD (mulD (F.vl a) (F.vl b)) else mulD (F.vl a) (F.vl b),(F.ng a != F.ng b) != minus)
def zsg (md : Int) (x y : Dy × Bool) : Bool:=if x.1.m = 0∧y.1.m = 0∧x.2 = y.2 then x.2 else decide (md = 5)
def ptQ (F : Fm) (md : Int) (d : Dy) (n : Bool) (by' : Dy) : Nat × Nat:=if d.m = 0 then (F.sgn n,0) else quoW F md d by'
theorem ZeQ (F : Fm) (a b : Nat) : Bd (mulD (F.vl a) (F.vl b)) 2400:=by
 have hF:=ZbH F
 by_cases h1 : (F.vl a).m = 0
 ·rw [ZlL (Or.inl h1)]; exact ⟨by simp only [Zag]; omega,by simp,by simp⟩
 ·by_cases h2 : (F.vl b).m = 0
  ·rw [ZlL (Or.inr h2)]; exact ⟨by simp only [Zag]; omega,by simp,by simp⟩
  ·have fa : F.fin a:=by
    by_cases h : F.fin a
    ·exact h
    ·exfalso; apply h1; unfold Fm.vl; rw [if_neg h]
   have fb : F.fin b:=by
    by_cases h : F.fin b
    ·exact h
    ·exfalso; apply h2; unfold Fm.vl; rw [if_neg h]
   have e1:=ZpF F fa (by rw [← Zdx fa]; exact h1)
   have e2:=ZpF F fb (by rw [← Zdx fb]; exact h2)
   rw [← Zdx fa] at e1
   rw [← Zdx fb] at e2
   obtain ⟨_,a1,a2,a3⟩:=e1
   obtain ⟨_,b1,b2,b3⟩:=e2
   have hb:=Zys a1 b1
   rw [ZHK (Zes F a) (Zes F b) h1 h2]
   exact ⟨by simp only; omega,by simp only; omega,by simp only; omega⟩
theorem Zrv (F : Fm) (a b : Nat) (s : Bool) : Bd (tm F a b s).1 2400∧Nz (tm F a b s).1:=by
 unfold tm; cases s
 ·exact ⟨ZeQ F a b,Zdc _ _⟩
 ·exact ⟨(ZeQ F a b).neg,ZrK (Zdc _ _)⟩
theorem ZkZ (J : Al G T g) (F : Fm) {w : Nat} (hw : w < 2 * F.sg) :
  ∃ z,run G T 296 [.int .u8 F.u,.int .u64 (w : Int)] = some (numA z (F.vl w,F.ng w)):=by
 apply exP
 rw [Zab G T J.J.ZkZ]
 obtain ⟨z,k,h1⟩:=ZcR J F hw
 have h2:=Zgc J F hw
 generalize F.vl w = v at *
 generalize F.ng w = n at *
 simp only [fldA,DyA,A3,numA] at *
 repeat' (first | simp only [seval,exC,Zhm,h1,h2] | simp (disch:=omega) only [dxB])
 all_goals exact ⟨_,rfl,z,rfl⟩
theorem Zbd (J : Al G T g) {z y n k : Bool} {a b : Dy} (na : Nz a) (nb : Nz b) (ha : Bd a 16384) (hb : Bd b 16384) :
  ∃ z',run G T 278 [numA z (a,n),numA y (b,k)] = some (numA z' (mulD a b,n != k)):=by
 apply exP
 rw [Zab G T J.J.Zbd]
 obtain ⟨z',h1⟩:=Zmu J (z:=z) (y:=y) ha hb (Zaw na (ha.mono (by decide))) (Zaw nb (hb.mono (by decide)))
 generalize mulD a b = d at *
 have hne : (n != k) = !decide (n = k):=by cases n <;> cases k <;> rfl
 rw [hne]
 simp only [DyA,A3,numA] at *
 repeat' (first | simp only [seval,exC,Zdz,h1] | simp (disch:=omega) only [dxB])
 all_goals exact ⟨_,rfl,z',rfl⟩
theorem ZfC (J : Al G T g) {z n : Bool} {a : Dy} (na : Nz a) (ha : Bd a 131072) :
  ∃ z',run G T 279 [numA z (a,n)] = some (numA z' (negD a,!n)):=by
 apply exP
 rw [Zab G T J.J.ZfC]
 obtain ⟨z',h1⟩:=ZpC J (z:=z) (d:=a) (Zaw na ha)
 generalize negD a = d at *
 simp only [DyA,A3,numA] at *
 repeat' (first | simp only [seval,exC,Zdy,h1] | simp (disch:=omega) only [dxB])
 all_goals exact ⟨_,rfl,z',rfl⟩
theorem Zgw (J : Al G T g) {z y n k : Bool} {a b : Dy} {md : Int} (na : Nz a) (nb : Nz b) (ha : Bd a 16384) (hb : Bd b 16384) :
  ∃ z' s,run G T 295 [numA z (a,n),numA y (b,k),.int .u8 md] = some (numA z' (addD a b,s))∧((addD a b).m = 0→s = zsg md (a,n) (b,k)):=by
 rw [Zab G T J.J.Zgw]
 obtain ⟨z',h1⟩:=Zmt J (z:=z) (y:=y) ha hb (Zaw na (ha.mono (by decide))) (Zaw nb (hb.mono (by decide)))
 have md':=Zaw (ZnE na nb) ((ZhT ha hb).mono (by decide))
 have ma':=Zaw na (ha.mono (by decide))
 have s1:=Zcn J (n:=(addD a b).n) (z:=z') (Zao (addD a b).m) (e:=(addD a b).e)
 rw [ZfK md'] at s1
 have s2:=Zcn J (n:=a.n) (z:=z) (Zao a.m) (e:=a.e)
 rw [ZfK ma'] at s2
 have hz : (addD a b).m = 0→a.m = 0→b.m = 0:=by intro h ha0; unfold addD at h; rw [if_pos ha0] at h; exact h
 unfold zsg
 generalize addD a b = d at *
 clear md' ma' na nb ha hb
 obtain ⟨an,am,ae⟩:=a
 obtain ⟨dn,dm,de⟩:=d
 simp only [DyA,A3,numA] at *
 by_cases d0 : dm = 0
 ·rw [if_pos d0] at s1
  by_cases a0 : am = 0
  ·rw [if_pos a0] at s2
   have b0:=hz d0 a0
   by_cases e : n = k
   ·refine ⟨z',n,?_,fun _ => by rw [if_pos ⟨a0,b0,e⟩]⟩
    subst e
    repeat' (first | simp only [seval,exC,Zbk,h1,s1,s2] | simp (disch:=omega) only [dxB])
   ·refine ⟨z',decide (md = 5),?_,fun _ => by rw [if_neg (fun h => e h.2.2)]⟩
    repeat' (first | simp only [seval,exC,Zbk,h1,s1,s2,e] | simp (disch:=omega) only [dxB])
  ·rw [if_neg a0] at s2
   refine ⟨z',decide (md = 5),?_,fun _ => by rw [if_neg (fun h => a0 h.1)]⟩
   cases an <;> (simp only [Bool.false_eq_true,if_false,if_true] at s2; repeat' (first | simp only [seval,exC,Zbk,h1,s1,s2] | simp (disch:=omega) only [dxB]))
 ·rw [if_neg d0] at s1
  refine ⟨z',dn,?_,fun h => absurd h d0⟩
  cases dn <;> (simp only [Bool.false_eq_true,if_false,if_true] at s1; repeat' (first | simp only [seval,exC,Zbk,h1,s1] | simp (disch:=omega) only [dxB]))
def gaussA (z y : Bool) (p q : Dy × Bool) : AV:=.agg [.bool p.1.n,D z (dl p.1.m),.int .i64 p.1.e,.bool p.2,.bool q.1.n,D y (dl q.1.m),.int .i64 q.1.e,.bool q.2]
def workA (F : Fm) (md : Int) : AV:=.agg [.int .u8 F.u,.int .u8 md]
def oneD : Dy:=⟨false,1,0⟩
theorem ZdL (J : Al G T g) (F : Fm) {a b : Nat} (ha : a < 2 * F.sg) (hb : b < 2 * F.sg) :
  ∃ z y,run G T 271 [.int .u8 F.u,zA a b] = some (gaussA z y (F.vl a,F.ng a) (F.vl b,F.ng b)):=by
 rw [Zab G T J.J.ZdL]
 obtain ⟨z,h1⟩:=ZkZ J F ha
 obtain ⟨y,h2⟩:=ZkZ J F hb
 refine ⟨z,y,?_⟩
 generalize F.vl a = v at *
 generalize F.ng a = n at *
 generalize F.vl b = w at *
 generalize F.ng b = k at *
 simp only [zA,gaussA,numA] at *
 repeat' (first | simp only [seval,exC,ZeT,h1,h2] | simp (disch:=omega) only [dxB])
theorem Zep (J : Al G T g) (F : Fm) {md : Int} {z1 z2 y1 y2 n1 n2 k1 k2 : Bool} {a b c d : Dy} (na : Nz a) (nb : Nz b) (nc : Nz c) (nd : Nz d) (ha : Bd a 4096) (hb : Bd b 4096) (hc : Bd c 4096) (hd : Bd d 4096) :
  ∃ z y s t,run G T 270 [workA F md,gaussA z1 z2 (a,n1) (b,n2),gaussA y1 y2 (c,k1) (d,k2)] = some (gaussA z y (addD (mulD a c) (negD (mulD b d)),s) (addD (mulD a d) (mulD b c),t)) ∧
   ((addD (mulD a c) (negD (mulD b d))).m = 0→s = zsg md (mulD a c,n1 != k1) (negD (mulD b d),!(n2 != k2)))∧((addD (mulD a d) (mulD b c)).m = 0→t = zsg md (mulD a d,n1 != k2) (mulD b c,n2 != k1)):=by
 rw [Zab G T J.J.Zep]
 obtain ⟨u1,h1⟩:=Zbd J (z:=z1) (y:=y1) (n:=n1) (k:=k1) na nc (ha.mono (by decide)) (hc.mono (by decide))
 obtain ⟨u2,h2⟩:=Zbd J (z:=z2) (y:=y2) (n:=n2) (k:=k2) nb nd (hb.mono (by decide)) (hd.mono (by decide))
 obtain ⟨u3,h3⟩:=ZfC J (z:=u2) (n:=n2 != k2) (Zdc b d) ((ZjE hb hd).mono (by decide))
 obtain ⟨u4,s,h4,e4⟩:=Zgw J (z:=u1) (y:=u3) (n:=n1 != k1) (k:=!(n2 != k2)) (md:=md) (Zdc a c) (ZrK (Zdc b d)) (ZjE ha hc) (ZjE hb hd).neg
 obtain ⟨u5,h5⟩:=Zbd J (z:=z1) (y:=y2) (n:=n1) (k:=k2) na nd (ha.mono (by decide)) (hd.mono (by decide))
 obtain ⟨u6,h6⟩:=Zbd J (z:=z2) (y:=y1) (n:=n2) (k:=k1) nb nc (hb.mono (by decide)) (hc.mono (by decide))
 obtain ⟨u7,t,h7,e7⟩:=Zgw J (z:=u5) (y:=u6) (n:=n1 != k2) (k:=n2 != k1) (md:=md) (Zdc a d) (Zdc b c) (ZjE ha hd) (ZjE hb hc)
 refine ⟨u4,u7,s,t,?_,e4,e7⟩
 clear e4 e7 ha hb hc hd na nb nc nd
 generalize addD (mulD a c) (negD (mulD b d)) = X at *
 generalize addD (mulD a d) (mulD b c) = Y at *
 generalize negD (mulD b d) = e at *
 generalize mulD a c = m1 at *
 generalize mulD b d = m2 at *
 generalize mulD a d = m3 at *
 generalize mulD b c = m4 at *
 generalize (!(n2 != k2)) = q0 at *
 generalize (n1 != k1) = q1 at *
 generalize (n2 != k2) = q2 at *
 generalize (n1 != k2) = q3 at *
 generalize (n2 != k1) = q4 at *
 simp only [gaussA,workA,numA] at *
 repeat' (first | simp only [seval,exC,ZcW,h1,h2,h3,h4,h5,h6,h7] | simp (disch:=omega) only [dxB])
theorem ZfE (J : Al G T g) (F : Fm) {md : Int} (hm : 1≤md∧md≤5) {z y s : Bool} {d b : Dy} (nd : Nz d) (nb : Nz b) (hd : Bd d 65537) (hb : Bd b 65537) (b0 : b.m≠0) :
  run G T 294 [workA F md,numA z (d,s),DyA y b] = some (.tup [.int .u64 ((ptQ F md d s b).1 : Int),.int .u8 ((ptQ F md d s b).2 : Int)]):=by
 rw [Zab G T J.J.ZfE]
 have ma:=Zaw nd (hd.mono (by decide))
 have s1:=Zcn J (n:=d.n) (z:=z) (Zao d.m) (e:=d.e)
 rw [ZfK ma] at s1
 unfold ptQ
 by_cases d0 : d.m = 0
 ·rw [if_pos d0] at s1 ⊢
  have w1:=Zmg J F (n:=s)
  generalize F.sgn s = S at *
  simp only [workA,numA,DyA,A3,cast0] at *
  repeat' (first | simp only [seval,exC,Zci,s1,w1] | simp (disch:=omega) only [dxB])
 ·rw [if_neg d0] at s1 ⊢
  have hbl:=hd.bl
  have hbb:=hb.bl
  have r1:=Zrh J F hm (z:=z) (y:=y) ma (Zaw nb (hb.mono (by decide))) d0 b0 (by unfold quoN; omega)
  generalize quoW F md d b = S at *
  obtain ⟨n,m,e⟩:=d
  simp only [workA,numA,DyA,A3] at *
  cases n <;> (simp only [Bool.false_eq_true,if_false,if_true] at s1; repeat' (first | simp only [seval,exC,Zci,s1,r1] | simp (disch:=omega) only [dxB]))
theorem ZfD (J : Al G T g) (F : Fm) {md : Int} (hm : 1≤md∧md≤5) {z z' y s t : Bool} {d e b : Dy} (nd : Nz d) (ne : Nz e) (nb : Nz b) (hd : Bd d 65537) (he : Bd e 65537) (hb : Bd b 65537) (b0 : b.m≠0) :
  run G T 269 [workA F md,gaussA z z' (d,s) (e,t),DyA y b] = some (zrA (ptQ F md d s b) (ptQ F md e t b)):=by
 rw [Zab G T J.J.ZfD]
 have h1:=ZfE J F hm (z:=z) (y:=y) (s:=s) nd nb hd hb b0
 have h2:=ZfE J F hm (z:=z') (y:=y) (s:=t) ne nb he hb b0
 generalize ptQ F md d s b = S1 at *
 generalize ptQ F md e t b = S2 at *
 simp only [workA,numA,gaussA,zrA,DyA,A3] at *
 repeat' (first | simp only [seval,exC,ZdA,h1,h2] | simp (disch:=omega) only [dxB])
theorem ZyK (J : Al G T g) : ∃ z,run G T 272 [.int .i64 1] = some (DyA z oneD):=by
 apply exP
 rw [Zab G T J.J.ZpB]
 obtain ⟨z1,h1⟩:=ZqL J (n:=1) (by decide)
 obtain ⟨z2,h2⟩:=Zcm J (n:=false) (z:=z1) (a:=1) (e:=0) (Zak (by decide)) (Or.inr (by rw [ZuV (by decide)]; omega)) (by omega)
 rw [show mkD false 1 0 = oneD from ZsI (by decide)] at h2
 have w1 : IntKind.u64.wrap 1 = 1:=rfl
 rw [show ((1 : Nat) : Int) = 1 from rfl] at h1
 generalize oneD = d at *
 simp only [DyA,A3] at *
 repeat' (first | simp only [seval,exC,ZjJ,w1,h1,h2] | simp (disch:=omega) only [dxB])
 all_goals exact ⟨_,rfl,z2,rfl⟩
noncomputable def kV2 (G : Nat→Option (List AV)) (T : Tbl) (f : AV) (args : List AV) (d : Option Nat) (os : List IOper) (e : Env) (h : Heap) : Option (Env × Heap) :=
 kW G (CF G T) (match f with
  | .fn k cap => (T k).bind fun fn => kJ G fn.res (evL G T fn.body (numE 0 (args ++ cap)) h)
  | .yv => CF G T true 0 args h
  | _ => none) d os e
theorem ZCz (t : Nat) (args : List IOpd) (d : Option Nat) (os : List IOper) (e : Env) (h : Heap) :
  evOps G (CF G T) (⟨d,.call true (.t t) args,none⟩ :: os) e h = kV2 G T (opd e (.t t)) (args.map (opd e)) d os e h:=by
 rw [Ztk]
 unfold kV2
 refine congrArg (fun o => kW G (CF G T) o d os e) ?_
 simp only [evW]
 cases opd e (.t t) <;> try rfl
 rename_i k cap
 simp only [Zye]
 cases T k with
 | none => rfl
 | some fn =>
  simp only [Option.bind_some]
  cases evL G T fn.body (numE 0 (args.map (opd e) ++ cap)) h with
  | none => rfl
  | some r => obtain ⟨x,e,h⟩:=r; cases x <;> rfl
theorem ZHv {k : Nat} {fn : IFn} (hf : T k = some fn) (cap args : List AV) (d : Option Nat) (os : List IOper) (e : Env) (h : Heap) :
  kV2 G T (.fn k cap) args d os e h = kW G (CF G T) (kJ G fn.res (evL G T fn.body (numE 0 (args ++ cap)) h)) d os e:=by
 unfold kV2; simp only [hf,Option.bind_some]
theorem ZAD {k w : Nat} (h : w < 2 ^ k) : w ^^^ 2 ^ k = 2 ^ k + w:=by
 apply Nat.eq_of_testBit_eq
 intro j
 rw [Nat.testBit_xor]
 rcases Nat.lt_trichotomy j k with q | q | q
 ·rw [Nat.testBit_two_pow_of_ne (by omega),Nat.testBit_two_pow_add_gt q,Bool.xor_false]
 ·subst q
  rw [Nat.testBit_two_pow_self,Nat.testBit_two_pow_add_eq,Nat.testBit_lt_two_pow h]; rfl
 ·have h2:=Nat.pow_le_pow_right (n:=2) (by decide) (show k + 1≤j from q)
  rw [Nat.pow_succ] at h2
  rw [Nat.testBit_two_pow_of_ne (by omega),Nat.testBit_lt_two_pow (by omega),Nat.testBit_lt_two_pow (by omega)]; rfl
theorem ZIY (F : Fm) {w : Nat} (hw : w < 2 * F.sg) : w ^^^ F.sg = F.flip w:=by
 obtain ⟨k,hk⟩ : ∃ k,F.sg = 2 ^ k:=by cases F; exact ⟨31,rfl⟩; exact ⟨63,rfl⟩
 unfold Fm.flip Fm.ng Fm.sgn
 rw [hk] at hw ⊢
 have hp:=Nat.two_pow_pos k
 by_cases h : 2 ^ k≤w
 ·rw [decide_eq_true h,Bool.not_true,if_neg (by decide),Nat.mod_eq_sub_mod h,Nat.mod_eq_of_lt (by omega),Nat.add_zero]
  have e:=ZAD (k:=k) (w:=w - 2 ^ k) (by omega)
  rw [show 2 ^ k + (w - 2 ^ k) = w by omega] at e
  rw [← e,Nat.xor_assoc,Nat.xor_self,Nat.xor_zero]
  rw [e]
 ·rw [decide_eq_false h,Bool.not_false,if_pos rfl,Nat.mod_eq_of_lt (by omega),ZAD (by omega),Nat.add_comm]
theorem xor64 {a b : Nat} (ha : a < 18446744073709551616) (hb : b < 18446744073709551616) : xorI .u64 (a : Int) (b : Int) = ((a ^^^ b : Nat) : Int):=by
 have : a ^^^ b < 2 ^ 64:=Nat.xor_lt_two_pow (n:=64) ha hb
 rw [Ztu]
 show IntKind.u64.wrap ((BitVec.ofInt 64 a ^^^ BitVec.ofInt 64 b).toNat : Int) = _
 simp only [BitVec.toNat_xor,BitVec.toNat_ofInt,Zjq]
 have e1 : ((a : Int) % (2 ^ 64 : Nat)).toNat = a:=by omega
 have e2 : ((b : Int) % (2 ^ 64 : Nat)).toNat = b:=by omega
 rw [e1,e2]; omega
theorem ZpU (J : Al G T g) (F : Fm) {w : Nat} (hw : w < 2 * F.sg) : run G T 310 [.int .u8 F.u,.int .u64 (w : Int)] = some (.tup [.int .u64 (F.min w : Int),.int .i64 0]):=by
 rw [Zab G T J.J.ZpU]
 have h1:=ZhS J F (ZaP hw)
 rw [if_pos hw] at h1
 have h2:=Zpk J F hw
 have h3:=ZuY J F
 have x1:=xor64 (a:=w) (b:=F.sg) (ZaP hw) (by cases F <;> decide)
 rw [ZIY F hw] at x1
 have kv:=fun cap args d os e h => ZHv (G:=G) (T:=T) J.J.word_Neg_1 cap args d os e h
 have kt:=fun d args os e h => Zjn (G:=G) (T:=T) J.J.word_turned d args os e h
 unfold Fm.min
 by_cases h5 : F.cls w = 5
 ·rw [if_pos h5]
  rw [h5] at h2
  simp only [shA] at *
  repeat' (first | simp only [seval,exC,ZjR,kt,ZfA,h1,h2,h3] | simp (disch:=omega) only [dxB])
 ·rw [if_neg h5]
  generalize F.cls w = c at *
  simp only [shA] at *
  repeat' (first | simp only [seval,exC,ZjR,kt,ZfA,h1,h2,h5,ZCz,kv,Zja,ZDp,x1] | simp (disch:=omega) only [dxB])
def sd (F : Fm) (w : Nat) (inf : Bool) : Int × Bool :=
 if F.cls w = 5 then (0,false) else if (if inf then F.cls w = 4 else F.cls w≠1) then (if F.ng w then (-1,true) else (1,false)) else (0,F.ng w)
def sT (a b : Int × Bool) : Int × Bool:=(a.1 * b.1,a.2 != b.2)
def sM (a : Int × Bool) : Int × Bool:=(-a.1,!a.2)
def sP (md : Int) (a b : Int × Bool) : Int × Bool:=if a.1 + b.1≠0 then (a.1 + b.1,decide (a.1 + b.1 < 0)) else if a.1 = 0∧a.2 = b.2 then a else (0,decide (md = 5))
def SdC (p : Int × Bool) : Prop:=p = (-1,true)∨p = (1,false)∨p = (0,true)∨p = (0,false)
theorem sd_c (F : Fm) (w : Nat) (inf : Bool) : SdC (sd F w inf):=by
 unfold sd SdC
 by_cases h : F.cls w = 5
 ·rw [if_pos h]; simp
 ·rw [if_neg h]
  by_cases k : (if inf then F.cls w = 4 else F.cls w≠1)
  ·rw [if_pos k]; cases F.ng w <;> simp
  ·rw [if_neg k]; cases F.ng w <;> simp
theorem sT_c {a b : Int × Bool} (ha : SdC a) (hb : SdC b) : SdC (sT a b):=by
 rcases ha with rfl | rfl | rfl | rfl <;> rcases hb with rfl | rfl | rfl | rfl <;> simp [SdC,sT]
theorem sM_c {a : Int × Bool} (ha : SdC a) : SdC (sM a):=by
 rcases ha with rfl | rfl | rfl | rfl <;> simp [SdC,sM]
def bxT (md : Int) (p q r s : Int × Bool) : (Int × Bool) × (Int × Bool):=(sP md (sT p r) (sM (sT q s)),sP md (sT p s) (sT q r))
def Fm.one (F : Fm) : Nat:=F.most / 2 * 2 ^ F.fr
def bw (F : Fm) (p : Int × Bool) : Nat:=if p.1 = 0 then F.sgn p.2 else F.one + F.sgn p.2
theorem ZlO (F : Fm) (n : Bool) : F.one≠0∧F.one < F.i0∧F.val (F.one + F.sgn n) = ⟨n,1,0⟩:=by
 have e : F.one = F.enc (2 ^ F.fr) (-F.fr):=by cases F <;> decide
 refine ⟨by cases F <;> decide,by cases F <;> decide,?_⟩
 rw [e,ZAC F n (by have:=Nat.two_pow_pos F.fr; omega) (by rw [Nat.pow_succ]; have:=Nat.two_pow_pos F.fr; omega) (by cases F <;> decide) (Or.inr (Nat.le_refl _)) (by cases F <;> decide)]
 have:=ZpI (n:=n) (m:=1) (e:=0) (by decide) F.fr
 rwa [Nat.one_mul,Int.zero_sub] at this
theorem ZuU (F : Fm) (n : Bool) : F.one + 2 ^ F.fr≠0∧F.one + 2 ^ F.fr < F.i0∧F.val (F.one + 2 ^ F.fr + F.sgn n) = ⟨n,1,1⟩:=by
 have e : F.one + 2 ^ F.fr = F.enc (2 ^ F.fr) (1 - F.fr):=by cases F <;> decide
 refine ⟨by cases F <;> decide,by cases F <;> decide,?_⟩
 rw [e,ZAC F n (by have:=Nat.two_pow_pos F.fr; omega) (by rw [Nat.pow_succ]; have:=Nat.two_pow_pos F.fr; omega) (by cases F <;> decide) (Or.inr (Nat.le_refl _)) (by cases F <;> decide)]
 have:=ZpI (n:=n) (m:=1) (e:=1) (by decide) F.fr
 rwa [Nat.one_mul] at this
theorem Zix (F : Fm) (n : Bool) : F.sgn n < 2 * F.sg∧F.ng (F.sgn n) = n∧F.cls (F.sgn n) = 1∧F.vl (F.sgn n) = ⟨false,0,0⟩:=by
 have hi:=ZgS F
 obtain ⟨g1,g2,g3⟩:=ZvH F n
 have h2:=(ZeA (F:=F) (s:=0) n (by omega)).2
 rw [Nat.zero_add] at h2
 exact ⟨g1,h2,by rw [Zss g1 g2,g3],g3⟩
theorem ZjG (F : Fm) {s : Nat} {d : Dy} (n : Bool) (h0 : s≠0) (h1 : s < F.i0) (hv : F.val (s + F.sgn n) = d) (hm : d.m≠0) : s + F.sgn n < 2 * F.sg∧F.ng (s + F.sgn n) = n∧F.cls (s + F.sgn n)≠1∧F.fin (s + F.sgn n)∧F.vl (s + F.sgn n) = d∧∀ md,sumW F md d = (s + F.sgn n,0):=by
 have hi:=ZgS F
 have hf:=Zjd (F:=F) n h1
 have hl : s + F.sgn n < 2 * F.sg:=by unfold Fm.sgn; split <;> omega
 have hvl : F.vl (s + F.sgn n) = d:=by rw [Zdx hf,hv]
 refine ⟨hl,(ZeA n (by omega)).2,fun q => ?_,hf,hvl,fun md => ?_⟩
 ·have:=(Zss hl hf).1 q
  rw [hvl] at this; exact hm this
 ·have:=(ZuA F md n h1 h0).1
  rw [hv] at this
  unfold sumW; rw [if_neg hm]; exact this
theorem ZaY (F : Fm) {p : Int × Bool} (hp : SdC p) : bw F p < 2 * F.sg∧F.ng (bw F p) = p.2∧F.fin (bw F p)∧(F.cls (bw F p) = 1↔p.1 = 0)∧F.vl (bw F p) = if p.1 = 0 then ⟨false,0,0⟩ else ⟨p.2,1,0⟩:=by
 unfold bw
 by_cases h : p.1 = 0
 ·simp only [if_pos h]
  obtain ⟨q1,q2,q3,q4⟩:=Zix F p.2
  exact ⟨q1,q2,Zbu.2 (Or.inl q3),by simp [q3,h],q4⟩
 ·simp only [if_neg h]
  obtain ⟨e1,e2,e3⟩:=ZlO F p.2
  obtain ⟨q1,q2,q3,q4,q5,_⟩:=ZjG F p.2 e1 e2 e3 Nat.one_ne_zero
  exact ⟨q1,q2,q4,by simp [q3,h],q5⟩
theorem Zyu (F : Fm) {p : Int × Bool} (hp : SdC p) : F.flip (bw F p) = bw F (sM p):=by
 have hi:=ZgS F
 unfold Fm.flip
 rw [(ZaY F hp).2.1]
 unfold bw sM
 by_cases h : p.1 = 0
 ·rw [if_pos h,if_pos (by simp [h])]
  have:=(ZeA (F:=F) (s:=0) p.2 (by omega)).1
  rw [Nat.zero_add] at this
  rw [this,Nat.zero_add]
 ·rw [if_neg h,if_neg (by simp; omega)]
  obtain ⟨e1,e2,_⟩:=ZlO F p.2
  rw [(ZeA (F:=F) p.2 (by omega)).1]
theorem Zwc (F : Fm) (md : Int) {p r : Int × Bool} (hp : SdC p) (hr : SdC r) : mulW2 F md (bw F p) (bw F r) = (bw F (sT p r),0):=by
 obtain ⟨a1,a2,a3,a4,a5⟩:=ZaY F hp
 obtain ⟨b1,b2,b3,b4,b5⟩:=ZaY F hr
 unfold mulW2
 rw [ZBV F md (Zbu.1 a3) (Zbu.1 b3),a2,b2,a5,b5]
 by_cases h : p.1 = 0∨r.1 = 0
 ·rw [if_pos (by rw [a4,b4]; exact h)]
  unfold bw sT
  rw [if_pos (by rcases h with h | h <;> simp [h])]
 ·rw [if_neg (by rw [a4,b4]; exact h)]
  have h1 : p.1≠0:=fun q => h (Or.inl q)
  have h2 : r.1≠0:=fun q => h (Or.inr q)
  rw [if_neg h1,if_neg h2]
  have e : mulD ⟨p.2,1,0⟩ ⟨r.2,1,0⟩ = ⟨p.2 != r.2,1,0⟩:=ZsI (show 1 * 1 % 2 = 1 from rfl)
  rw [e]
  obtain ⟨e1,e2,e3⟩:=ZlO F (p.2 != r.2)
  rw [(ZjG F _ e1 e2 e3 Nat.one_ne_zero).2.2.2.2.2 md]
  unfold bw sT
  rw [if_neg (by simp [h1,h2])]
theorem ZtF (F : Fm) (md : Int) {p r : Int × Bool} (hp : SdC p) (hr : SdC r) : (addW F md (bw F p) (bw F r)).1 < 2 * F.sg ∧
  (((sP md p r).1 = 0∧F.cls (addW F md (bw F p) (bw F r)).1 = 1∧(addW F md (bw F p) (bw F r)).1 = F.sgn (sP md p r).2) ∨
   ((sP md p r).1≠0∧F.cls (addW F md (bw F p) (bw F r)).1≠1∧F.ng (addW F md (bw F p) (bw F r)).1 = (sP md p r).2)):=by
 obtain ⟨a1,a2,a3,a4,a5⟩:=ZaY F hp
 obtain ⟨b1,b2,b3,b4,b5⟩:=ZaY F hr
 have hz : ∀ n,F.sgn n < 2 * F.sg∧F.cls (F.sgn n) = 1:=fun n => ⟨(Zix F n).1,(Zix F n).2.2.1⟩
 have h1 : ∀ n,F.one + F.sgn n < 2 * F.sg∧F.cls (F.one + F.sgn n)≠1∧F.ng (F.one + F.sgn n) = n:=fun n => by
  obtain ⟨e1,e2,e3⟩:=ZlO F n
  obtain ⟨q1,q2,q3,_⟩:=ZjG F n e1 e2 e3 Nat.one_ne_zero
  exact ⟨q1,q3,q2⟩
 have h2 : ∀ n,F.one + 2 ^ F.fr + F.sgn n < 2 * F.sg∧F.cls (F.one + 2 ^ F.fr + F.sgn n)≠1∧F.ng (F.one + 2 ^ F.fr + F.sgn n) = n:=fun n => by
  obtain ⟨e1,e2,e3⟩:=ZuU F n
  obtain ⟨q1,q2,q3,_⟩:=ZjG F n e1 e2 e3 Nat.one_ne_zero
  exact ⟨q1,q3,q2⟩
 have s1 : ∀ n,sumW F md ⟨n,1,0⟩ = (F.one + F.sgn n,0):=fun n => by
  obtain ⟨e1,e2,e3⟩:=ZlO F n
  exact (ZjG F n e1 e2 e3 Nat.one_ne_zero).2.2.2.2.2 md
 have s2 : ∀ n,sumW F md ⟨n,1,1⟩ = (F.one + 2 ^ F.fr + F.sgn n,0):=fun n => by
  obtain ⟨e1,e2,e3⟩:=ZuU F n
  exact (ZjG F n e1 e2 e3 Nat.one_ne_zero).2.2.2.2.2 md
 have s0 : sumW F md ⟨false,0,0⟩ = (F.sgn (decide (md = 5)),0):=rfl
 have m2 : ∀ n,mkD n 2 0 = ⟨n,1,1⟩:=fun n => by
  have:=ZpI (n:=n) (m:=1) (e:=1) (by decide) 1
  exact this
 have m0 : ∀ n,mkD n 0 0 = ⟨false,0,0⟩:=fun n => ZdN n 0
 have hw : addW F md (bw F p) (bw F r) = if p.1 = 0∧r.1 = 0∧p.2 = r.2 then (F.sgn p.2,0) else sumW F md (addD (if p.1 = 0 then ⟨false,0,0⟩ else ⟨p.2,1,0⟩) (if r.1 = 0 then ⟨false,0,0⟩ else ⟨r.2,1,0⟩)):=by
  unfold addW
  rw [ZAM F md (Zbu.1 a3) (Zbu.1 b3),a2,b2,a5,b5]
  simp only [a4,b4]
 rw [hw]
 rcases hp with rfl | rfl | rfl | rfl <;> rcases hr with rfl | rfl | rfl | rfl <;>
  simp [addD,sP,s0,s1,s2,m2,m0,hz,h1,h2]
theorem ZqA (b : Nat) (k : IntKind) : iaddrAV 2 2 (.ptr b 0) (.int k 0) = some (.ptr b 0):=rfl
theorem ZqB (b : Nat) (k : IntKind) : iaddrAV 2 2 (.ptr b 0) (.int k 1) = some (.ptr b 2):=rfl
theorem ZHc (b : Nat) (k : IntKind) : iaddrAV 2 1 (.ptr b 0) (.int k 0) = some (.ptr b 0):=rfl
theorem ZHd (b : Nat) (k : IntKind) : iaddrAV 2 1 (.ptr b 0) (.int k 1) = some (.ptr b 1):=rfl
theorem ZHj (a b c d : AV) (k : IntKind) : indexV true 2 2 (.agg [a,b,c,d]) (.int k 0) = some (.agg [a,b]):=rfl
theorem ZHk (a b c d : AV) (k : IntKind) : indexV true 2 2 (.agg [a,b,c,d]) (.int k 1) = some (.agg [c,d]):=rfl
def sideA (p : Int × Bool) : AV:=.agg [.int .i64 p.1,.bool p.2]
def boxA (p q : Int × Bool) : AV:=.agg [.int .i64 p.1,.bool p.2,.int .i64 q.1,.bool q.2]
theorem Zbj (J : Al G T g) {p q : Int × Bool} (hp : SdC p) (hq : SdC q) : run G T 308 [sideA p,sideA q] = some (sideA (sT p q)):=by
 rw [Zab G T J.J.Zbj]
 have w : IntKind.i64.wrap (p.1 * q.1) = p.1 * q.1:=Zac (by rcases hp with rfl | rfl | rfl | rfl <;> rcases hq with rfl | rfl | rfl | rfl <;> decide)
 obtain ⟨n,s⟩:=p
 obtain ⟨k,t⟩:=q
 have hne : (s != t) = !decide (s = t):=by cases s <;> cases t <;> rfl
 simp only [sideA,sT,hne] at *
 repeat' (first | simp only [seval,exC,Zcf,w] | simp (disch:=omega) only [dxB])
theorem Zdb (J : Al G T g) {p : Int × Bool} (hp : SdC p) : run G T 302 [sideA p] = some (sideA (sM p)):=by
 rw [Zab G T J.J.Zdb]
 rcases hp with rfl | rfl | rfl | rfl <;> (
  have w1 : IntKind.i64.wrap (- -1) = 1:=rfl
  have w2 : IntKind.i64.wrap (-1) = -1:=rfl
  have w3 : IntKind.i64.wrap 0 = 0:=rfl
  have w4 : IntKind.i64.wrap 1 = 1:=rfl
  have w5 : IntKind.i64.wrap (-0) = 0:=rfl
  simp only [sideA,sM,Int.neg_zero,Int.reduceNeg,Int.neg_neg,Bool.not_true,Bool.not_false] at *
  repeat' (first | simp only [seval,exC,Zce,w1,w2,w3,w4,w5] | simp (disch:=omega) only [dxB]))
theorem ZdU (J : Al G T g) {md : Int} {p q : Int × Bool} (hp : SdC p) (hq : SdC q) : run G T 309 [sideA p,sideA q,.int .u8 md] = some (sideA (sP md p q)):=by
 rw [Zab G T J.J.ZdU]
 have w : IntKind.i64.wrap (p.1 + q.1) = p.1 + q.1:=Zac (by rcases hp with rfl | rfl | rfl | rfl <;> rcases hq with rfl | rfl | rfl | rfl <;> decide)
 unfold sP
 obtain ⟨n,s⟩:=p
 obtain ⟨k,t⟩:=q
 simp only [sideA] at *
 by_cases h0 : n + k = 0
 ·have h0' : ¬ n + k≠0:=fun h => h h0
  rw [if_neg h0']
  by_cases h1 : n = 0
  ·by_cases h2 : s = t
   ·rw [if_pos ⟨h1,h2⟩]
    subst h2
    rw [h0] at w
    repeat' (first | simp only [seval,exC,ZaI,w,h0,h1] | simp (disch:=omega) only [dxB])
   ·rw [if_neg (fun h => h2 h.2)]
    repeat' (first | simp only [seval,exC,ZaI,w,h0,h1,h2] | simp (disch:=omega) only [dxB])
  ·rw [if_neg (fun h => h1 h.1)]
   repeat' (first | simp only [seval,exC,ZaI,w,h0,h1] | simp (disch:=omega) only [dxB])
 ·rw [if_pos h0]
  repeat' (first | simp only [seval,exC,ZaI,w,h0] | simp (disch:=omega) only [dxB])
theorem ZgC (J : Al G T g) (F : Fm) {w : Nat} {inf : Bool} (hw : w < 2 * F.sg) : run G T 307 [.int .u8 F.u,.int .u64 (w : Int),.bool inf] = some (sideA (sd F w inf)):=by
 rw [Zab G T J.J.ZgC]
 have h1:=Zby J F hw
 have h2:=Zgc J F hw
 unfold sd
 generalize F.cls w = c at *
 generalize F.ng w = n at *
 generalize F.ex w = x at *
 generalize F.fc w = y at *
 simp only [fldA,sideA] at *
 by_cases h5 : c = 5
 ·subst h5
  rw [if_pos rfl]
  cases inf <;> repeat' (first | simp only [seval,exC,ZaS,h1,h2] | simp (disch:=omega) only [dxB])
 ·rw [if_neg h5]
  cases inf
  ·simp only [Bool.false_eq_true,if_false]
   by_cases k : c = 1
   ·rw [if_neg (fun h => h k)]
    repeat' (first | simp only [seval,exC,ZaS,h1,h2,h5,k] | simp (disch:=omega) only [dxB])
   ·rw [if_pos k]
    cases n <;> repeat' (first | simp only [seval,exC,ZaS,h1,h2,h5,k] | simp (disch:=omega) only [dxB])
  ·simp only [if_true]
   by_cases k : c = 4
   ·rw [if_pos k]
    cases n <;> repeat' (first | simp only [seval,exC,ZaS,h1,h2,h5,k] | simp (disch:=omega) only [dxB])
   ·rw [if_neg k]
    repeat' (first | simp only [seval,exC,ZaS,h1,h2,h5,k] | simp (disch:=omega) only [dxB])
theorem ZdS (J : Al G T g) (F : Fm) {a b : Nat} {c : Int} (ha : a < 2 * F.sg) (hb : b < 2 * F.sg) : run G T 291 [.int .u8 F.u,zA a b,.int .u8 c] = some (boxA (sd F a (decide (c = 3))) (sd F b (decide (c = 3)))):=by
 rw [Zab G T J.J.ZdS]
 have h1:=ZgC J F (inf:=decide (c = 3)) ha
 have h2:=ZgC J F (inf:=decide (c = 3)) hb
 generalize sd F a (decide (c = 3)) = p at *
 generalize sd F b (decide (c = 3)) = q at *
 simp only [zA,sideA,boxA] at *
 repeat' (first | simp only [seval,exC,Zfx,h1,h2] | simp (disch:=omega) only [dxB])
theorem ZdT (J : Al G T g) {md : Int} {p q r s : Int × Bool} (hp : SdC p) (hq : SdC q) (hr : SdC r) (hs : SdC s) :
  run G T 292 [boxA p q,boxA r s,.int .u8 md] = some (boxA (bxT md p q r s).1 (bxT md p q r s).2):=by
 rw [Zab G T J.J.ZdT]
 have h1:=Zbj J hp hr
 have h2:=Zbj J hq hs
 have h3:=Zdb J (sT_c hq hs)
 have h4:=ZdU J (md:=md) (sT_c hp hr) (sM_c (sT_c hq hs))
 have h5:=Zbj J hp hs
 have h6:=Zbj J hq hr
 have h7:=ZdU J (md:=md) (sT_c hp hs) (sT_c hq hr)
 unfold bxT
 generalize sP md (sT p r) (sM (sT q s)) = x at *
 generalize sP md (sT p s) (sT q r) = y at *
 generalize sM (sT q s) = z at *
 generalize sT p r = t1 at *
 generalize sT q s = t2 at *
 generalize sT p s = t3 at *
 generalize sT q r = t4 at *
 simp only [sideA,boxA] at *
 repeat' (first | simp only [seval,exC,ZcE,ZqA,ZqB,h1,h2,h3,h4,h5,h6,h7] | simp (disch:=omega) only [dxB])
def sideW (F : Fm) (size : Nat) (p : Int × Bool) : Nat:=if p.2 then F.min (if p.1≠0 then size else 0) else if p.1≠0 then size else 0
theorem ZEf (e : Env) (h : Heap) : evL G T ZcT e h = kS G T (evL G T ZcS (keepE [1,2,6,7,10,11] e) h) ZcT:=Zae G T rfl e h
set_option maxHeartbeats 4000000 in
theorem Zcq (J : Al G T g) (F : Fm) {size : Nat} (hs : size < 2 * F.sg) {p q : Int × Bool} : run G T 293 [boxA p q,.int .u8 F.u,.int .u64 (size : Int)] = some (zA (sideW F size p) (sideW F size q)):=by
 rw [Zab G T J.J.Zcq]
 have z0 : (0 : Nat) < 2 * F.sg:=by cases F <;> decide
 have n1:=ZpU J F hs
 have n2:=ZpU J F z0
 unfold sideW
 obtain ⟨n,s⟩:=p
 obtain ⟨k,t⟩:=q
 simp only [boxA,zA,cast0] at *
 by_cases h1 : n = 0 <;> by_cases h2 : k = 0 <;> cases s <;> cases t <;> simp only [h1,h2,ne_eq,not_true_eq_false,not_false_eq_true,if_true,if_false,Bool.false_eq_true,cast0] <;>
  repeat' (first | simp only [seval,exC,ZcF,ZHj,ZHk,ZHc,ZHd,ZEf,ZcS,h1,h2,n1,n2,wr_1,wr1,wr_2,wr2] | simp (disch:=omega) only [dxB])
theorem ZeP (J : Al G T g) (F : Fm) {x : Nat} : run G T 290 [.int .u8 F.u,.int .u8 (x : Int)] = some (zrA (F.nan,x) (F.nan,x)):=by
 rw [Zab G T J.J.ZeP]
 have h1:=Zhc J F
 simp only [zrA]
 repeat' (first | simp only [seval,exC,Zgu,h1] | simp (disch:=omega) only [dxB])
theorem Zom (J : Al G T g) (F : Fm) {n : Bool} : run G T 303 [.int .u8 F.u,.bool n] = some (.int .u64 ((F.one + F.sgn n : Nat) : Int)):=by
 rw [Zab G T J.J.Zom]
 have h1:=ZhP J F
 cases F
 ·have h2:=ZeN J .s (n:=n) (x:=127) (w:=0) (by decide) (Or.inl (by decide))
  cases n <;> (
   simp only [fldA,Fm.u,Fm.one,Fm.most,Fm.fr,Fm.sgn,Fm.sg,Int.cast_ofNat_Int,Nat.reducePow,Nat.reduceMul,Nat.reduceDiv,Nat.reduceAdd,Bool.false_eq_true,if_false,if_true,cast0,Nat.add_zero] at *
   have q : IntKind.i64.wrap ((255 : Int).tdiv 2) = 127:=rfl
   repeat' (first | simp only [seval,exC,Zik,h1,q,h2] | simp (disch:=omega) only [dxB]))
 ·have h2:=ZeN J .d (n:=n) (x:=1023) (w:=0) (by decide) (Or.inl (by decide))
  cases n <;> (
   simp only [fldA,Fm.u,Fm.one,Fm.most,Fm.fr,Fm.sgn,Fm.sg,Int.cast_ofNat_Int,Nat.reducePow,Nat.reduceMul,Nat.reduceDiv,Nat.reduceAdd,Bool.false_eq_true,if_false,if_true,cast0,Nat.add_zero] at *
   have q : IntKind.i64.wrap ((2047 : Int).tdiv 2) = 1023:=rfl
   repeat' (first | simp only [seval,exC,Zik,h1,q,h2] | simp (disch:=omega) only [dxB]))
def bxw (F : Fm) (w : Nat) (big : Bool) : Nat:=if big then F.one + F.sgn (decide (F.cls w≠5) && F.ng w) else F.sgn (decide (F.cls w≠5) && F.ng w)
theorem Zkg (J : Al G T g) (F : Fm) {w : Nat} {big : Bool} (hw : w < 2 * F.sg) : run G T 311 [.int .u8 F.u,.int .u64 (w : Int),.bool big] = some (.int .u64 (bxw F w big : Int)):=by
 rw [Zab G T J.J.Zkg]
 have h1:=ZaA J F (ZaP hw)
 have h2:=ZbZ J F (ZaP hw)
 have h3:=fun n => Zom J F (n:=n)
 have h4:=fun n => Zbe J F (n:=n) (w:=0)
 rw [Nat.zero_mod] at h4
 unfold bxw
 generalize F.cls w = c at *
 generalize F.ng w = n at *
 generalize F.ex w = x at *
 generalize F.fc w = y at *
 simp only [fldA,cast0,Nat.zero_add] at *
 by_cases h5 : c = 5
 ·have h3:=h3 false
  have h4:=h4 false
  subst h5
  simp only [ne_eq,not_true_eq_false,decide_false,Bool.false_and]
  cases big
  ·simp only [Bool.false_eq_true,if_false]
   generalize F.sgn false = s at *
   repeat' (first | simp only [seval,exC,Zew,fd_3,h1,h4] | simp (disch:=omega) only [dxB])
  ·simp only [if_true]
   generalize F.one + F.sgn false = s at *
   repeat' (first | simp only [seval,exC,Zew,fd_3,h1,h3] | simp (disch:=omega) only [dxB])
 ·have h3:=h3 n
  have h4:=h4 n
  simp only [ne_eq,h5,not_false_eq_true,decide_true,Bool.true_and]
  cases big
  ·simp only [Bool.false_eq_true,if_false]
   generalize F.sgn n = s at *
   repeat' (first | simp only [seval,exC,Zew,fd_3,h1,h5,h2,h4] | simp (disch:=omega) only [dxB])
  ·simp only [if_true]
   generalize F.one + F.sgn n = s at *
   repeat' (first | simp only [seval,exC,Zew,fd_3,h1,h5,h2,h3] | simp (disch:=omega) only [dxB])
theorem Zwd (F : Fm) {w : Nat} {inf : Bool} (h : inf = true∨F.cls w≠5) : bxw F w (if inf then decide (F.cls w = 4) else decide (F.cls w≠1)) = bw F (sd F w inf):=by
 unfold bxw bw sd
 cases inf
 ·have h5 : F.cls w≠5:=by rcases h with h | h; cases h; exact h
  simp only [Bool.false_eq_true,if_false,h5,ne_eq,not_false_eq_true,decide_true,Bool.true_and,decide_eq_true_eq]
  by_cases k : F.cls w = 1
  ·simp [k]
  ·cases F.ng w <;> simp [k]
 ·by_cases h5 : F.cls w = 5
  ·simp [h5]
  ·simp only [if_true,h5,ne_eq,not_false_eq_true,decide_true,Bool.true_and,decide_eq_true_eq,if_false]
   by_cases k : F.cls w = 4
   ·cases F.ng w <;> simp [k]
   ·simp [k]
theorem Zkf (J : Al G T g) (F : Fm) {a b : Nat} (ha : a < 2 * F.sg) (hb : b < 2 * F.sg) (h4 : zcl (F.cls a) (F.cls b)≠4) :
  run G T 300 [.int .u8 F.u,zA a b] = some (zA (bw F (sd F a (decide (zcl (F.cls a) (F.cls b) = 3)))) (bw F (sd F b (decide (zcl (F.cls a) (F.cls b) = 3))))):=by
 rw [Zab G T J.J.Zkf]
 have h1:=ZbE J F ha hb
 have c1:=ZaA J F (ZaP ha)
 have c2:=ZaA J F (ZaP hb)
 by_cases h3 : zcl (F.cls a) (F.cls b) = 3
 ·have e1:=Zwd F (w:=a) (inf:=true) (Or.inl rfl)
  have e2:=Zwd F (w:=b) (inf:=true) (Or.inl rfl)
  rw [decide_eq_true h3,← e1,← e2]
  simp only [if_true]
  have b1:=Zkg J F (big:=decide (F.cls a = 4)) ha
  have b2:=Zkg J F (big:=decide (F.cls b = 4)) hb
  generalize bxw F a (decide (F.cls a = 4)) = s1 at *
  generalize bxw F b (decide (F.cls b = 4)) = s2 at *
  rw [h3] at h1
  generalize F.cls a = ca at *
  generalize F.cls b = cb at *
  simp only [zA] at *
  repeat' (first | simp only [seval,exC,Zij,h1,c1,c2,b1,b2] | simp (disch:=omega) only [dxB])
 ·have n5 : F.cls a≠5∧F.cls b≠5:=by
   unfold zcl at h3 h4
   by_cases q : F.cls a = 4∨F.cls b = 4
   ·rw [if_pos q] at h3; exact absurd rfl h3
   ·rw [if_neg q] at h4
    by_cases r : F.cls a = 5∨F.cls b = 5
    ·rw [if_pos r] at h4; exact absurd rfl h4
    ·exact ⟨fun h => r (Or.inl h),fun h => r (Or.inr h)⟩
  have e1:=Zwd F (w:=a) (inf:=false) (Or.inr n5.1)
  have e2:=Zwd F (w:=b) (inf:=false) (Or.inr n5.2)
  simp only [Bool.false_eq_true,if_false,ne_eq,decide_not] at e1 e2
  rw [decide_eq_false h3,← e1,← e2]
  clear e1 e2
  have b1:=Zkg J F (big:=!decide (F.cls a = 1)) ha
  have b2:=Zkg J F (big:=!decide (F.cls b = 1)) hb
  generalize bxw F a (!decide (F.cls a = 1)) = s1 at *
  generalize bxw F b (!decide (F.cls b = 1)) = s2 at *
  generalize zcl (F.cls a) (F.cls b) = zc at *
  generalize F.cls a = ca at *
  generalize F.cls b = cb at *
  simp only [zA] at *
  repeat' (first | simp only [seval,exC,Zij,h1,h3,c1,c2,b1,b2] | simp (disch:=omega) only [dxB])
theorem ZhF (J : Al G T g) (F : Fm) {md : Int} (hm : 1≤md∧md≤5) {p q r s : Int × Bool} (hp : SdC p) (hq : SdC q) (hr : SdC r) (hs : SdC s) :
  run G T 299 [.int .u8 F.u,.int .u8 md,zA (bw F p) (bw F q),zA (bw F r) (bw F s)] = some (zA (addW F md (bw F (sT p r)) (bw F (sM (sT q s)))).1 (addW F md (bw F (sT p s)) (bw F (sT q r))).1):=by
 rw [Zab G T J.J.ZhF]
 have m1:=ZfJ J F hm (ZaY F hp).1 (ZaY F hr).1
 have m2:=ZfJ J F hm (ZaY F hq).1 (ZaY F hs).1
 have m3:=ZfJ J F hm (ZaY F hp).1 (ZaY F hs).1
 have m4:=ZfJ J F hm (ZaY F hq).1 (ZaY F hr).1
 rw [Zwc F md hp hr] at m1
 rw [Zwc F md hq hs] at m2
 rw [Zwc F md hp hs] at m3
 rw [Zwc F md hq hr] at m4
 have s1:=ZlS J F hm (ZaY F (sT_c hp hr)).1 (ZaY F (sT_c hq hs)).1
 rw [ZuR F md (ZaY F (sT_c hq hs)).1,Zyu F (sT_c hq hs)] at s1
 have s2:=Zeg J F hm (ZaY F (sT_c hp hs)).1 (ZaY F (sT_c hq hr)).1
 generalize addW F md (bw F (sT p r)) (bw F (sM (sT q s))) = X at *
 generalize addW F md (bw F (sT p s)) (bw F (sT q r)) = Y at *
 simp only [zA] at *
 repeat' (first | simp only [seval,exC,Zfo,m1,m2,m3,m4,s1,s2] | simp (disch:=omega) only [dxB])
def trn (F : Fm) (to w : Nat) : Nat:=if F.cls w = 1 then w else to % F.sg + F.sgn (F.ng w)
theorem Zto (e : Env) (h : Heap) : evL G T ZfW e h = kS G T (evL G T Zbw (keepE [0,2,6,7,8] e) h) ZfW:=Zae G T rfl e h
theorem Zjk (J : Al G T g) (F : Fm) {a b to : Nat} (ha : a < 2 * F.sg) (hb : b < 2 * F.sg) :
  run G T 298 [.int .u8 F.u,zA a b,.int .u64 (to : Int)] = some (zA (trn F to a) (trn F to b)):=by
 rw [Zab G T J.J.Zjk]
 have c1:=ZaA J F (ZaP ha)
 have c2:=ZaA J F (ZaP hb)
 have p1:=ZbZ J F (ZaP ha)
 have p2:=ZbZ J F (ZaP hb)
 have q1:=Zbe J F (n:=F.ng a) (w:=to)
 have q2:=Zbe J F (n:=F.ng b) (w:=to)
 unfold trn
 generalize to % F.sg + F.sgn (F.ng a) = s1 at *
 generalize to % F.sg + F.sgn (F.ng b) = s2 at *
 generalize F.ng a = n1 at *
 generalize F.ng b = n2 at *
 generalize F.ex a = x1 at *
 generalize F.ex b = x2 at *
 generalize F.fc a = y1 at *
 generalize F.fc b = y2 at *
 simp only [zA,fldA] at *
 by_cases k1 : F.cls a = 1 <;> by_cases k2 : F.cls b = 1
 ·rw [if_pos k1,if_pos k2]
  rw [k1] at c1
  rw [k2] at c2
  repeat' (first | simp only [seval,exC,ZbX,Zto,Zbw,fd_3,ZbI,c1,c2,wr_1,wr1,wr_2,wr2] | simp (disch:=omega) only [dxB])
 ·rw [if_pos k1,if_neg k2]
  rw [k1] at c1
  repeat' (first | simp only [seval,exC,ZbX,Zto,Zbw,fd_3,ZbI,c1,c2,k2,p2,q2,wr_1,wr1,wr_2,wr2] | simp (disch:=omega) only [dxB])
 ·rw [if_neg k1,if_pos k2]
  rw [k2] at c2
  repeat' (first | simp only [seval,exC,ZbX,Zto,Zbw,fd_3,ZbI,c1,k1,p1,q1,c2,wr_1,wr1,wr_2,wr2] | simp (disch:=omega) only [dxB])
 ·rw [if_neg k1,if_neg k2]
  repeat' (first | simp only [seval,exC,ZbX,Zto,Zbw,fd_3,ZbI,c1,k1,p1,q1,c2,k2,p2,q2,wr_1,wr1,wr_2,wr2] | simp (disch:=omega) only [dxB])
theorem ZdQ (J : Al G T g) (F : Fm) {x : Nat} : run G T 297 [.int .u8 F.u,.int .u8 (x : Int)] = some (zrA (F.nan,x) (F.nan,x)):=by
 rw [Zab G T J.J.ZdQ]
 have h1:=ZdP J F
 simp only [zrA]
 repeat' (first | simp only [seval,exC,Zfn,h1] | simp (disch:=omega) only [dxB])
theorem ZmQ (F : Fm) (md : Int) {to : Nat} (ht : to = 0∨to = F.inf false) {p r : Int × Bool} (hp : SdC p) (hr : SdC r) : trn F to (addW F md (bw F p) (bw F r)).1 = sideW F to (sP md p r):=by
 have hi:=ZgS F
 obtain ⟨_,h⟩:=ZtF F md hp hr
 have z1 : F.cls 0 = 1:=(Zix F false).2.2.1
 have z2 : F.cls (F.inf false) = 4:=Zqf F false
 have m0 : F.min 0 = F.sgn true:=by
  unfold Fm.min; rw [if_neg (by rw [z1]; decide)]; cases F <;> decide
 have m1 : F.min (F.inf false) = F.inf true:=by
  unfold Fm.min; rw [if_neg (by rw [z2]; decide)]; cases F <;> decide
 have r0 : ∀ n,0 % F.sg + F.sgn n = F.sgn n:=fun n => by rw [Nat.zero_mod,Nat.zero_add]
 have r1 : ∀ n,F.inf false % F.sg + F.sgn n = F.inf n:=fun n => by cases F <;> cases n <;> decide
 have s0 : F.sgn false = 0:=rfl
 unfold trn sideW
 rcases h with ⟨h1,h2,h3⟩ | ⟨h1,h2,h3⟩
 ·have e0 : ¬ ((sP md p r).1≠0):=fun h => h h1
  rw [if_pos h2,h3]
  simp only [if_neg e0]
  cases (sP md p r).2
  ·simp [s0]
  ·simp [m0]
 ·rw [if_neg h2,h3]
  simp only [if_pos h1]
  rcases ht with rfl | rfl
  ·rw [r0]
   cases (sP md p r).2
   ·simp [s0]
   ·simp [m0]
  ·rw [r1]
   cases (sP md p r).2
   ·simp
   ·simp [m1]
def apC (bs : List Blk) (f : List Nat) (b n : Nat) (o : Option Blk) (w : Option (List AV)) : Option (AV × Heap) :=
 match w with
 | some nw => match o with
  | some k => if k.dead = false∧f.contains b = false∧n * 1≤k.cs.length∧n + 1≤boundApp then some (.own bs.length 0 (n + 1) 1,⟨bs.set b ⟨k.cs,true⟩ ++ [⟨k.cs.take (n * 1) ++ nw,false⟩],f⟩) else none
  | none => none
 | none => none
theorem ZJg (bs : List Blk) (f : List Nat) (b n c : Nat) : appV ⟨bs,f⟩ 1 1 (.own b 0 n 1) (.own c 0 1 1) = apC bs f b n (bs[b]?) (subB (bs[c]?) 0 1):=by
 have h1:=Znr bs f c 0 1
 simp only [appV,sliceCells,if_true,Nat.one_mul,h1]
 cases subB (bs[c]?) 0 1 with
 | none => rfl
 | some nw =>
  simp only [Option.map_some,apC]
  cases bs[b]? with
  | none => rfl
  | some k => simp
theorem ZJe (bs : List Blk) (b : Nat) (cs nw : List AV) : apC bs [] b 0 (some ⟨cs,false⟩) (some nw) = some (.own bs.length 0 1 1,⟨bs.set b ⟨cs,true⟩ ++ [⟨nw,false⟩],[]⟩):=by
 simp [apC,boundApp]
theorem ZJf (bs : List Blk) (b : Nat) (x1 : AV) (nw : List AV) : apC bs [] b 1 (some ⟨[x1],false⟩) (some nw) = some (.own bs.length 0 2 1,⟨bs.set b ⟨[x1],true⟩ ++ [⟨x1 :: nw,false⟩],[]⟩):=by
 simp [apC,boundApp]
theorem ZCn (h : Mem) (x y : AV) (l : List AV) : rdAt G h 2 (.iptr (x :: y :: l) 0) = some [x,y]:=by simp [rdAt]
theorem ZCo (h : Mem) (x y u v : AV) (l : List AV) : rdAt G h 2 (.iptr (x :: y :: u :: v :: l) 2) = some [u,v]:=by simp [rdAt]
theorem ZFV (e : Env) (h : Heap) : evL G T ZfZ e h = kS G T (evL G T ZfY (keepE [0,10,27,28,29] e) h) ZfZ:=Zae G T rfl e h
theorem Zvh (e : Env) (h : Heap) : evL G T ZhY e h = kS G T (evL G T Zdg (keepE [0,21,22,23] e) h) ZhY:=Zae G T rfl e h
theorem ZoE (J : Al G T g) (F : Fm) {w : Nat} (hw : w < 18446744073709551616) : run G T 312 [.int .u8 F.u,.int .u64 (w : Int)] = some (.int .i64 (if w < 2 * F.sg then 0 else 6)):=by
 rw [Zab G T J.J.ZoE]
 have h1:=ZhS J F hw
 generalize (if w < 2 * F.sg then (0 : Int) else 6) = e at *
 simp only [shA] at *
 repeat' (first | simp only [seval,exC,ZkU,h1] | simp (disch:=omega) only [dxB])
theorem Zob (J : Al G T g) (F : Fm) {a b : Nat} (ha : a < 18446744073709551616) (hb : b < 18446744073709551616) : run G T 304 [.int .u8 F.u,zA a b] = some (.int .i64 (if a < 2 * F.sg∧b < 2 * F.sg then 0 else 6)):=by
 rw [Zab G T J.J.Zob]
 have h1:=ZoE J F ha
 have h2:=ZoE J F hb
 simp only [zA]
 by_cases k1 : a < 2 * F.sg
 ·rw [if_pos k1] at h1
  by_cases k2 : b < 2 * F.sg
  ·rw [if_pos k2] at h2
   rw [if_pos ⟨k1,k2⟩]
   repeat' (first | simp only [seval,exC,ZfT,h1,h2] | simp (disch:=omega) only [dxB])
  ·rw [if_neg k2] at h2
   rw [if_neg (fun h => k2 h.2)]
   repeat' (first | simp only [seval,exC,ZfT,h1,h2] | simp (disch:=omega) only [dxB])
 ·rw [if_neg k1] at h1
  rw [if_neg (fun h => k1 h.1)]
  repeat' (first | simp only [seval,exC,ZfT,h1] | simp (disch:=omega) only [dxB])
def im2 (a b c d : Nat) : AV:=.imm 2 [.int .u64 (a : Int),.int .u64 (b : Int),.int .u64 (c : Int),.int .u64 (d : Int)]
theorem Zoz (J : Al G T g) (F : Fm) {md : Int} (hm : 1≤md∧md≤5) {a b c d : Nat} (ha : a < 2 * F.sg) (hb : b < 2 * F.sg) (hc : c < 2 * F.sg) (hd : d < 2 * F.sg) :
  run G T 289 [.int .u8 F.u,.int .u8 md,im2 a b c d] = some (.tup [.imm 2 [.int .u8 (zcl (F.cls a) (F.cls b)),.int .u8 (zcl (F.cls c) (F.cls d))],.int .i64 0]):=by
 rw [Zab G T J.J.special_open]
 have o1:=ZeO J F hm (neg:=false)
 have c1:=ZbN J F ha hb
 have c2:=ZbN J F hc hd
 generalize zcl (F.cls a) (F.cls b) = x at *
 generalize zcl (F.cls c) (F.cls d) = y at *
 simp only [zA,im2] at *
 repeat' (first | simp only [seval,exC,Zgv,o1,c1,c2,ZFV,ZfY,ZBB,ZBC,fa_i,ZCn,ZCo,ZJe,ZJf,wr_1,wr1,wr_2,wr2,ZJg,List.set_cons_zero,List.set_cons_succ,List.cons_append,List.nil_append ] | simp (disch:=omega) only [dxB,Zzl])
theorem Zqx (J : Al G T g) (F : Fm) {md : Int} (hm : 1≤md∧md≤5) {a b c d : Nat} (ha : a < 18446744073709551616) (hb : b < 18446744073709551616) (hc : c < 18446744073709551616) (hd : d < 18446744073709551616) :
  run G T 286 [.int .u8 F.u,.int .u8 md,im2 a b c d] = some (.int .i64 (if (a < 2 * F.sg∧b < 2 * F.sg)∧(c < 2 * F.sg∧d < 2 * F.sg) then 0 else 6)):=by
 rw [Zab G T J.J.exact_open]
 have o1:=ZeO J F hm (neg:=false)
 have c1:=Zob J F ha hb
 have c2:=Zob J F hc hd
 simp only [zA,im2] at *
 by_cases k : a < 2 * F.sg∧b < 2 * F.sg
 ·rw [if_pos k] at c1
  by_cases q : c < 2 * F.sg∧d < 2 * F.sg
  ·rw [if_pos q] at c2
   rw [if_pos ⟨k,q⟩]
   repeat' (first | simp only [seval,exC,ZeD,o1,c1,c2,Zvh,Zdg,ZBB,ZBC,fa_i,ZCn,ZCo,wr_1,wr1,wr_2,wr2] | simp (disch:=omega) only [dxB])
  ·rw [if_neg q] at c2
   rw [if_neg (fun h => q h.2)]
   repeat' (first | simp only [seval,exC,ZeD,o1,c1,c2,Zvh,Zdg,ZBB,ZBC,fa_i,ZCn,ZCo,wr_1,wr1,wr_2,wr2] | simp (disch:=omega) only [dxB])
 ·rw [if_neg k] at c1
  rw [if_neg (fun h => k h.1)]
  repeat' (first | simp only [seval,exC,ZeD,o1,c1,Zvh,Zdg,ZBB,ZBC,fa_i,ZCn,ZCo,wr_1,wr1,wr_2,wr2] | simp (disch:=omega) only [dxB])
def smS (F : Fm) (a b c d : Nat) : Bool:=!decide (zcl (F.cls a) (F.cls b)≤2∧zcl (F.cls c) (F.cls d)≤2)
def bx (F : Fm) (a b : Nat) : (Int × Bool) × (Int × Bool):=(sd F a (decide (zcl (F.cls a) (F.cls b) = 3)),sd F b (decide (zcl (F.cls a) (F.cls b) = 3)))
def smP (F : Fm) (md : Int) (a b c d : Nat) : (Int × Bool) × (Int × Bool):=bxT md (bx F a b).1 (bx F a b).2 (bx F c d).1 (bx F c d).2
def smW (F : Fm) (md : Int) (a b c d : Nat) : (Nat × Nat) × (Nat × Nat) :=
 if zcl (F.cls a) (F.cls b)≤2∧zcl (F.cls c) (F.cls d)≤2 then ((0,0),(0,0))
 else if zcl (F.cls a) (F.cls b) = 4∨zcl (F.cls c) (F.cls d) = 4 then ((F.nan,0),(F.nan,0))
 else if zcl (F.cls a) (F.cls b) = 1∨zcl (F.cls c) (F.cls d) = 1 then ((F.nan,1),(F.nan,1))
 else ((sideW F (F.inf false) (smP F md a b c d).1,0),(sideW F (F.inf false) (smP F md a b c d).2,0))
def bxd (F : Fm) (c d : Nat) : (Int × Bool) × (Int × Bool):=(if zcl (F.cls c) (F.cls d) = 1 then (if (bx F c d).1.2 then -1 else 1,(bx F c d).1.2) else (bx F c d).1,sM (bx F c d).2)
def sdP (F : Fm) (md : Int) (a b c d : Nat) : (Int × Bool) × (Int × Bool):=bxT md (bx F a b).1 (bx F a b).2 (bxd F c d).1 (bxd F c d).2
def sdS (F : Fm) (a b c d : Nat) : Bool:=!decide (zcl (F.cls a) (F.cls b)≤2∧zcl (F.cls c) (F.cls d) = 2)
def sdW (F : Fm) (md : Int) (a b c d : Nat) : (Nat × Nat) × (Nat × Nat) :=
 if zcl (F.cls a) (F.cls b)≤2∧zcl (F.cls c) (F.cls d) = 2 then ((0,0),(0,0))
 else if zcl (F.cls a) (F.cls b) = 4∨zcl (F.cls c) (F.cls d) = 4 then ((F.nan,0),(F.nan,0))
 else if zcl (F.cls a) (F.cls b) = zcl (F.cls c) (F.cls d) then ((F.nan,1),(F.nan,1))
 else if zcl (F.cls c) (F.cls d) = 3 then ((sideW F 0 (sdP F md a b c d).1,0),(sideW F 0 (sdP F md a b c d).2,0))
 else if zcl (F.cls a) (F.cls b) = 3 then ((sideW F (F.inf false) (sdP F md a b c d).1,0),(sideW F (F.inf false) (sdP F md a b c d).2,0))
 else ((sideW F (F.inf false) (sdP F md a b c d).1,2),(sideW F (F.inf false) (sdP F md a b c d).2,2))
theorem Zhe (F : Fm) (a b : Nat) : zcl (F.cls a) (F.cls b) = 1∨zcl (F.cls a) (F.cls b) = 2∨zcl (F.cls a) (F.cls b) = 3∨zcl (F.cls a) (F.cls b) = 4:=by
 unfold zcl; repeat' split
 all_goals omega
theorem ZlE (F : Fm) (n : Bool) : F.inf n < 2 * F.sg:=by cases F <;> cases n <;> decide
theorem bx_c (F : Fm) (a b : Nat) : SdC (bx F a b).1∧SdC (bx F a b).2:=⟨sd_c _ _ _,sd_c _ _ _⟩
theorem ZEg (F : Fm) (c d : Nat) : SdC (bxd F c d).1∧SdC (bxd F c d).2:=by
 refine ⟨?_,sM_c (bx_c F c d).2⟩
 unfold bxd
 by_cases h : zcl (F.cls c) (F.cls d) = 1
 ·simp only [if_pos h]; unfold SdC; cases (bx F c d).1.2 <;> simp
 ·simp only [if_neg h]; exact (bx_c F c d).1
theorem ZjB (x y : AV) (k : IntKind) : iaddrV 1 (.imm 2 [x,y]) (.int k 0) = some (.iptr [x,y] 0):=rfl
theorem ZjC (x y : AV) (k : IntKind) : iaddrV 1 (.imm 2 [x,y]) (.int k 1) = some (.iptr [x,y] 1):=rfl
set_option maxHeartbeats 8000000 in
theorem Znz (J : Al G T g) (F : Fm) {md : Int} (hm : 1≤md∧md≤5) {a b c d : Nat} (ha : a < 2 * F.sg) (hb : b < 2 * F.sg) (hc : c < 2 * F.sg) (hd : d < 2 * F.sg) :
  run G T 268 [.int .u8 F.u,.int .u8 md,zA a b,zA c d] = some (.tup [zrA (smW F md a b c d).1 (smW F md a b c d).2,.bool (smS F a b c d),.int .i64 0]):=by
 rw [Zab G T J.J.Znz]
 have o1:=Zoz J F hm ha hb hc hd
 have i1:=Zjp J F (n:=false)
 have n0:=ZeP J F (x:=0)
 have n1:=ZeP J F (x:=1)
 have b1:=ZdS J F (c:=zcl (F.cls a) (F.cls b)) ha hb
 have b2:=ZdS J F (c:=zcl (F.cls c) (F.cls d)) hc hd
 have t1:=ZdT J (md:=md) (bx_c F a b).1 (bx_c F a b).2 (bx_c F c d).1 (bx_c F c d).2
 have w1:=Zcq J F (ZlE F false) (p:=(smP F md a b c d).1) (q:=(smP F md a b c d).2)
 have ra:=Zhe F a b
 have rc:=Zhe F c d
 rw [show sd F a (decide (zcl (F.cls a) (F.cls b) = 3)) = (bx F a b).1 from rfl,show sd F b (decide (zcl (F.cls a) (F.cls b) = 3)) = (bx F a b).2 from rfl] at b1
 rw [show sd F c (decide (zcl (F.cls c) (F.cls d) = 3)) = (bx F c d).1 from rfl,show sd F d (decide (zcl (F.cls c) (F.cls d) = 3)) = (bx F c d).2 from rfl] at b2
 rw [show bxT md (bx F a b).1 (bx F a b).2 (bx F c d).1 (bx F c d).2 = smP F md a b c d from rfl] at t1
 unfold smW smS
 generalize smP F md a b c d = P at *
 generalize bx F a b = p at *
 generalize bx F c d = q at *
 generalize zcl (F.cls a) (F.cls b) = x at *
 generalize zcl (F.cls c) (F.cls d) = y at *
 by_cases k0 : x≤2∧y≤2
 ·obtain ⟨x2,y2⟩:=k0
  rw [if_pos ⟨x2,y2⟩,decide_eq_true (show x≤2∧y≤2 from ⟨x2,y2⟩)]
  simp only [zA,zrA,im2,cast0,Bool.not_true] at *
  repeat' (first | simp only [seval,exC,ZaG,Zcu,ZbI,o1,ZjB,ZjC,rp_0,rp_1,i1,x2,y2] | simp (disch:=omega) only [dxB])
 ·rw [if_neg k0,decide_eq_false k0]
  by_cases k4 : x = 4∨y = 4
  ·rw [if_pos k4]
   simp only [zA,zrA,im2,cast0,Bool.not_false] at *
   rcases k4 with rfl | rfl
   ·repeat' (first | simp only [seval,exC,ZaG,Zcu,ZbI,o1,ZjB,ZjC,rp_0,rp_1,i1,n0] | simp (disch:=omega) only [dxB])
   ·by_cases h4 : x = 4
    ·subst h4
     repeat' (first | simp only [seval,exC,ZaG,Zcu,ZbI,o1,ZjB,ZjC,rp_0,rp_1,i1,n0] | simp (disch:=omega) only [dxB])
    ·by_cases h2 : x≤2
     ·repeat' (first | simp only [seval,exC,ZaG,Zcu,ZbI,o1,ZjB,ZjC,rp_0,rp_1,i1,h2,h4,n0] | simp (disch:=omega) only [dxB])
     ·repeat' (first | simp only [seval,exC,ZaG,Zcu,ZbI,o1,ZjB,ZjC,rp_0,rp_1,i1,h2,h4,n0] | simp (disch:=omega) only [dxB])
  ·rw [if_neg k4]
   have e4 : ¬ x = 4:=fun h => k4 (Or.inl h)
   have f4 : ¬ y = 4:=fun h => k4 (Or.inr h)
   by_cases k1 : x = 1∨y = 1
   ·rw [if_pos k1]
    simp only [zA,zrA,im2,cast0,Bool.not_false,Int.cast_ofNat_Int] at *
    rcases k1 with rfl | rfl
    ·have y2 : ¬ y≤2:=fun h => k0 ⟨by omega,h⟩
     repeat' (first | simp only [seval,exC,ZaG,Zcu,ZbI,o1,ZjB,ZjC,rp_0,rp_1,i1,y2,f4,n1] | simp (disch:=omega) only [dxB])
    ·have x2 : ¬ x≤2:=fun h => k0 ⟨h,by omega⟩
     have x1 : ¬ x = 1:=by omega
     repeat' (first | simp only [seval,exC,ZaG,Zcu,ZbI,o1,ZjB,ZjC,rp_0,rp_1,i1,x2,e4,x1,n1] | simp (disch:=omega) only [dxB])
   ·rw [if_neg k1]
    have e1 : ¬ x = 1:=fun h => k1 (Or.inl h)
    have f1 : ¬ y = 1:=fun h => k1 (Or.inr h)
    simp only [zA,zrA,im2,cast0,boxA,Bool.not_false] at *
    by_cases x2 : x≤2
    ·have y2 : ¬ y≤2:=fun h => k0 ⟨x2,h⟩
     repeat' (first | simp only [seval,exC,ZaG,Zcu,ZbI,o1,ZjB,ZjC,rp_0,rp_1,i1,x2,y2,e4,f4,e1,f1,b1,b2,t1,w1] | simp (disch:=omega) only [dxB])
    ·repeat' (first | simp only [seval,exC,ZaG,Zcu,ZbI,o1,ZjB,ZjC,rp_0,rp_1,i1,x2,e4,f4,e1,f1,b1,b2,t1,w1] | simp (disch:=omega) only [dxB])
theorem Zer (F : Fm) {a b : Nat} : (F.fin a∧F.fin b)↔zcl (F.cls a) (F.cls b)≤2:=by
 have ra:=ZbS F a
 have rb:=ZbS F b
 rw [Zbu,Zbu]
 unfold zcl
 by_cases h1 : F.cls a = 4∨F.cls b = 4
 ·rw [if_pos h1]; omega
 ·rw [if_neg h1]
  by_cases h2 : F.cls a = 5∨F.cls b = 5
  ·rw [if_pos h2]; omega
  ·rw [if_neg h2]; split <;> omega
set_option maxHeartbeats 8000000 in
theorem Zra (J : Al G T g) (F : Fm) {md : Int} (hm : 1≤md∧md≤5) {a b c d : Nat} (ha : a < 2 * F.sg) (hb : b < 2 * F.sg) (hc : c < 2 * F.sg) (hd : d < 2 * F.sg) :
  run G T 273 [.int .u8 F.u,.int .u8 md,zA a b,zA c d] = some (.tup [zrA (smW F md a b c d).1 (smW F md a b c d).2,.bool (smS F a b c d)]):=by
 rw [Zab G T J.J.Zra]
 have c1:=ZbE J F ha hb
 have c2:=ZbE J F hc hd
 have f1:=ZaC J F ha hb
 have f2:=ZaC J F hc hd
 have n0:=ZdQ J F (x:=0)
 have n1:=ZdQ J F (x:=1)
 have b1:=fun h => Zkf J F ha hb h
 have b2:=fun h => Zkf J F hc hd h
 have i1:=ZgU J F (n:=false)
 have t1:=ZhF J F hm (bx_c F a b).1 (bx_c F a b).2 (bx_c F c d).1 (bx_c F c d).2
 have w1:=Zjk J F (to:=F.inf false) (ZtF F md (sT_c (bx_c F a b).1 (bx_c F c d).1) (sM_c (sT_c (bx_c F a b).2 (bx_c F c d).2))).1 (ZtF F md (sT_c (bx_c F a b).1 (bx_c F c d).2) (sT_c (bx_c F a b).2 (bx_c F c d).1)).1
 rw [ZmQ F md (Or.inr rfl) (sT_c (bx_c F a b).1 (bx_c F c d).1) (sM_c (sT_c (bx_c F a b).2 (bx_c F c d).2)),ZmQ F md (Or.inr rfl) (sT_c (bx_c F a b).1 (bx_c F c d).2) (sT_c (bx_c F a b).2 (bx_c F c d).1)] at w1
 rw [show (sP md (sT (bx F a b).1 (bx F c d).1) (sM (sT (bx F a b).2 (bx F c d).2))) = (smP F md a b c d).1 from rfl,show sP md (sT (bx F a b).1 (bx F c d).2) (sT (bx F a b).2 (bx F c d).1) = (smP F md a b c d).2 from rfl] at w1
 rw [show sd F a (decide (zcl (F.cls a) (F.cls b) = 3)) = (bx F a b).1 from rfl,show sd F b (decide (zcl (F.cls a) (F.cls b) = 3)) = (bx F a b).2 from rfl] at b1
 rw [show sd F c (decide (zcl (F.cls c) (F.cls d) = 3)) = (bx F c d).1 from rfl,show sd F d (decide (zcl (F.cls c) (F.cls d) = 3)) = (bx F c d).2 from rfl] at b2
 have ra:=Zhe F a b
 have rc:=Zhe F c d
 have fa:=Zer F (a:=a) (b:=b)
 have fc:=Zer F (a:=c) (b:=d)
 unfold smW smS
 generalize (addW F md (bw F (sT (bx F a b).1 (bx F c d).1)) (bw F (sM (sT (bx F a b).2 (bx F c d).2)))).1 = u1 at *
 generalize (addW F md (bw F (sT (bx F a b).1 (bx F c d).2)) (bw F (sT (bx F a b).2 (bx F c d).1))).1 = u2 at *
 generalize smP F md a b c d = P at *
 generalize bw F (bx F a b).1 = p1 at *
 generalize bw F (bx F a b).2 = p2 at *
 generalize bw F (bx F c d).1 = q1 at *
 generalize bw F (bx F c d).2 = q2 at *
 generalize zcl (F.cls a) (F.cls b) = x at *
 generalize zcl (F.cls c) (F.cls d) = y at *
 by_cases k0 : x≤2∧y≤2
 ·obtain ⟨x2,y2⟩:=k0
  rw [if_pos ⟨x2,y2⟩,decide_eq_true (show x≤2∧y≤2 from ⟨x2,y2⟩)]
  rw [decide_eq_true (fa.2 x2)] at f1
  rw [decide_eq_true (fc.2 y2)] at f2
  simp only [zA,zrA,cast0,Bool.not_true] at *
  repeat' (first | simp only [seval,exC,ZcC,c1,c2,f1,f2] | simp (disch:=omega) only [dxB])
 ·rw [if_neg k0,decide_eq_false k0]
  have hfin : (¬ x≤2)∨(x≤2∧¬ y≤2):=by omega
  have ff : ∀ r : Prop,((run G T 250 [.int .u8 F.u,zA a b] = some (.bool false))→r)→((run G T 250 [.int .u8 F.u,zA a b] = some (.bool true))→(run G T 250 [.int .u8 F.u,zA c d] = some (.bool false))→r)→r:=fun r r1 r2 => by
   rcases hfin with h | ⟨h,h2⟩
   ·rw [decide_eq_false (fun q => h (fa.1 q))] at f1; exact r1 f1
   ·rw [decide_eq_true (fa.2 h)] at f1
    rw [decide_eq_false (fun q => h2 (fc.1 q))] at f2
    exact r2 f1 f2
  clear f1 f2 fa fc
  by_cases k4 : x = 4∨y = 4
  ·rw [if_pos k4]
   clear b1 b2 hfin ra rc k0
   by_cases h4 : x = 4
   ·subst h4
    apply ff <;> (clear ff; intros; simp only [zA,zrA,cast0,Bool.not_false] at *; repeat' (first | simp only [seval,exC,ZcC,c1,c2, *,n0] | simp (disch:=omega) only [dxB]))
   ·have h5 : y = 4:=by omega
    subst h5
    clear k4
    apply ff <;> (clear ff; intros; simp only [zA,zrA,cast0,Bool.not_false] at *; repeat' (first | simp only [seval,exC,ZcC,c1,c2, *,n0] | simp (disch:=omega) only [dxB]))
  ·rw [if_neg k4]
   have e4 : ¬ x = 4:=fun h => k4 (Or.inl h)
   have f4 : ¬ y = 4:=fun h => k4 (Or.inr h)
   have b1:=b1 e4
   have b2:=b2 f4
   by_cases k1 : x = 1∨y = 1
   ·rw [if_pos k1]
    clear hfin ra rc k0 k4
    by_cases h1 : x = 1
    ·subst h1
     clear k1
     apply ff <;> (clear ff; intros; simp only [zA,zrA,cast0,Bool.not_false,Int.cast_ofNat_Int] at *; repeat' (first | simp only [seval,exC,ZcC, *] | simp (disch:=omega) only [dxB]))
    ·have h5 : y = 1:=by omega
     subst h5
     clear k1
     apply ff <;> (clear ff; intros; simp only [zA,zrA,cast0,Bool.not_false,Int.cast_ofNat_Int] at *; repeat' (first | simp only [seval,exC,ZcC, *] | simp (disch:=omega) only [dxB]))
   ·rw [if_neg k1]
    have e1 : ¬ x = 1:=fun h => k1 (Or.inl h)
    have f1 : ¬ y = 1:=fun h => k1 (Or.inr h)
    clear hfin ra rc k0 k4 k1
    apply ff <;> (clear ff; intros; simp only [zA,zrA,cast0,Bool.not_false] at *; repeat' (first | simp only [seval,exC,ZcC, *] | simp (disch:=omega) only [dxB]))
set_option maxHeartbeats 16000000 in
theorem Zny (J : Al G T g) (F : Fm) {md : Int} (hm : 1≤md∧md≤5) {a b c d : Nat} (ha : a < 2 * F.sg) (hb : b < 2 * F.sg) (hc : c < 2 * F.sg) (hd : d < 2 * F.sg) :
  run G T 277 [.int .u8 F.u,.int .u8 md,zA a b,zA c d] = some (.tup [zrA (sdW F md a b c d).1 (sdW F md a b c d).2,.bool (sdS F a b c d),.int .i64 0]):=by
 rw [Zab G T J.J.Zny]
 have o1:=Zoz J F hm ha hb hc hd
 have i1:=Zjp J F (n:=false)
 have n0:=ZeP J F (x:=0)
 have n1:=ZeP J F (x:=1)
 have b1:=ZdS J F (c:=zcl (F.cls a) (F.cls b)) ha hb
 have b2:=ZdS J F (c:=zcl (F.cls c) (F.cls d)) hc hd
 have mi:=Zdb J (bx_c F c d).2
 have t1:=ZdT J (md:=md) (bx_c F a b).1 (bx_c F a b).2 (ZEg F c d).1 (ZEg F c d).2
 have w1:=Zcq J F (ZlE F false) (p:=(sdP F md a b c d).1) (q:=(sdP F md a b c d).2)
 have w0:=Zcq J F (size:=0) (by cases F <;> decide) (p:=(sdP F md a b c d).1) (q:=(sdP F md a b c d).2)
 have ra:=Zhe F a b
 have rc:=Zhe F c d
 rw [show sd F a (decide (zcl (F.cls a) (F.cls b) = 3)) = (bx F a b).1 from rfl,show sd F b (decide (zcl (F.cls a) (F.cls b) = 3)) = (bx F a b).2 from rfl] at b1
 rw [show sd F c (decide (zcl (F.cls c) (F.cls d) = 3)) = (bx F c d).1 from rfl,show sd F d (decide (zcl (F.cls c) (F.cls d) = 3)) = (bx F c d).2 from rfl] at b2
 rw [show bxT md (bx F a b).1 (bx F a b).2 (bxd F c d).1 (bxd F c d).2 = sdP F md a b c d from rfl] at t1
 have hx2 : (bxd F c d).2 = sM (bx F c d).2:=rfl
 rw [← hx2] at mi
 have hx1 : (bxd F c d).1 = if zcl (F.cls c) (F.cls d) = 1 then (if (bx F c d).1.2 then -1 else 1,(bx F c d).1.2) else (bx F c d).1:=rfl
 clear hx2
 unfold sdW sdS
 generalize sdP F md a b c d = P at *
 generalize bxd F c d = r at *
 generalize bx F a b = p at *
 generalize bx F c d = q at *
 generalize zcl (F.cls a) (F.cls b) = x at *
 generalize zcl (F.cls c) (F.cls d) = y at *
 obtain ⟨⟨p1,p2⟩,p3,p4⟩:=p
 obtain ⟨⟨q1,q2⟩,q3,q4⟩:=q
 obtain ⟨⟨r1,r2⟩,r3,r4⟩:=r
 by_cases k0 : x≤2∧y = 2
 ·obtain ⟨x2,rfl⟩:=k0
  rw [if_pos ⟨x2,rfl⟩,decide_eq_true (show x≤2∧(2 : Int) = 2 from ⟨x2,rfl⟩)]
  clear hx1
  simp only [zA,zrA,im2,cast0,Bool.not_true] at *
  repeat' (first | simp only [seval,exC,Zas,Zcu,ZbI,o1,ZjB,ZjC,rp_0,rp_1,i1,x2] | simp (disch:=omega) only [dxB])
 ·rw [if_neg k0,decide_eq_false k0]
  have hk : ¬ x≤2∨¬ y = 2:=by omega
  by_cases k4 : x = 4∨y = 4
  ·rw [if_pos k4]
   clear hx1
   simp only [zA,zrA,im2,cast0,Bool.not_false] at *
   by_cases h4 : x = 4
   ·subst h4
    repeat' (first | simp only [seval,exC,Zas,Zcu,ZbI,o1,ZjB,ZjC,rp_0,rp_1,i1,n0] | simp (disch:=omega) only [dxB])
   ·have h5 : y = 4:=by omega
    subst h5
    by_cases h2 : x≤2
    ·repeat' (first | simp only [seval,exC,Zas,Zcu,ZbI,o1,ZjB,ZjC,rp_0,rp_1,i1,h2,h4,n0] | simp (disch:=omega) only [dxB])
    ·repeat' (first | simp only [seval,exC,Zas,Zcu,ZbI,o1,ZjB,ZjC,rp_0,rp_1,i1,h2,h4,n0] | simp (disch:=omega) only [dxB])
  ·rw [if_neg k4]
   have e4 : ¬ x = 4:=fun h => k4 (Or.inl h)
   have f4 : ¬ y = 4:=fun h => k4 (Or.inr h)
   by_cases k1 : x = y
   ·rw [if_pos k1]
    subst k1
    clear hx1
    simp only [zA,zrA,im2,cast0,Bool.not_false,Int.cast_ofNat_Int] at *
    by_cases h2 : x≤2
    ·have h3 : ¬ x = 2:=by omega
     repeat' (first | simp only [seval,exC,Zas,Zcu,ZbI,o1,ZjB,ZjC,rp_0,rp_1,i1,h2,h3,e4,n1] | simp (disch:=omega) only [dxB])
    ·repeat' (first | simp only [seval,exC,Zas,Zcu,ZbI,o1,ZjB,ZjC,rp_0,rp_1,i1,h2,e4,n1] | simp (disch:=omega) only [dxB])
   ·rw [if_neg k1]
    have k1' : ¬ y = x:=fun h => k1 h.symm
    by_cases y3 : y = 3
    ·subst y3
     rw [if_pos rfl]
     have x2 : x≤2:=by omega
     rw [if_neg (by decide)] at hx1
     injection hx1 with hr1 hr2
     subst hr1 hr2
     clear k4 k0 hk ra rc
     simp only [zA,zrA,im2,cast0,boxA,sideA,Bool.not_false] at *
     repeat' (first | simp only [seval,exC,Zas,Zcu,ZbI,ZqA,ZqB,o1,ZjB,ZjC,rp_0,rp_1,i1,x2,e4,k1,b1,b2,mi,t1,w0] | simp (disch:=omega) only [dxB])
    ·rw [if_neg y3]
     by_cases y1 : y = 1
     ·subst y1
      have x1 : ¬ x = 1:=k1
      rw [if_pos rfl] at hx1
      injection hx1 with hr1 hr2
      simp only at hr1 hr2
      subst hr2
      clear k4 k0 rc
      cases r2
      ·simp only [Bool.false_eq_true,if_false] at hr1
       subst hr1
       by_cases x3 : x = 3
       ·subst x3
        rw [if_pos rfl]
        simp only [zA,zrA,im2,cast0,boxA,sideA,Bool.not_false] at *
        repeat' (first | simp only [seval,exC,Zas,Zcu,ZbI,ZqA,ZqB,o1,ZjB,ZjC,rp_0,rp_1,i1,b1,b2,mi,t1,w1] | simp (disch:=omega) only [dxB])
       ·rw [if_neg x3]
        have x2 : x≤2:=by omega
        simp only [zA,zrA,im2,cast0,boxA,sideA,Bool.not_false,Int.cast_ofNat_Int] at *
        repeat' (first | simp only [seval,exC,Zas,Zcu,ZbI,ZqA,ZqB,o1,ZjB,ZjC,rp_0,rp_1,i1,x2,x1,x3,e4,b1,b2,mi,t1,w1] | simp (disch:=omega) only [dxB])
      ·simp only [if_true] at hr1
       subst hr1
       by_cases x3 : x = 3
       ·subst x3
        rw [if_pos rfl]
        simp only [zA,zrA,im2,cast0,boxA,sideA,Bool.not_false] at *
        repeat' (first | simp only [seval,exC,Zas,Zcu,ZbI,ZqA,ZqB,o1,ZjB,ZjC,rp_0,rp_1,i1,b1,b2,mi,t1,w1] | simp (disch:=omega) only [dxB])
       ·rw [if_neg x3]
        have x2 : x≤2:=by omega
        simp only [zA,zrA,im2,cast0,boxA,sideA,Bool.not_false,Int.cast_ofNat_Int] at *
        repeat' (first | simp only [seval,exC,Zas,Zcu,ZbI,ZqA,ZqB,o1,ZjB,ZjC,rp_0,rp_1,i1,x2,x1,x3,e4,b1,b2,mi,t1,w1] | simp (disch:=omega) only [dxB])
     ·have y2 : y = 2:=by omega
      subst y2
      have x3 : x = 3:=by omega
      subst x3
      rw [if_pos rfl]
      rw [if_neg (by decide)] at hx1
      injection hx1 with hr1 hr2
      subst hr1 hr2
      clear k4 k0 hk ra rc
      simp only [zA,zrA,im2,cast0,boxA,sideA,Bool.not_false] at *
      repeat' (first | simp only [seval,exC,Zas,Zcu,ZbI,ZqA,ZqB,o1,ZjB,ZjC,rp_0,rp_1,i1,b1,b2,mi,t1,w1] | simp (disch:=omega) only [dxB])
theorem ZrW (F : Fm) {p : Int × Bool} (hp : SdC p) : F.can (bw F p) = bw F p∧F.min (bw F p) = bw F (sM p):=by
 have h:=Zbu.1 (ZaY F hp).2.2.1
 unfold Fm.can Fm.min
 rw [if_neg (by omega),if_neg (by omega),Zyu F hp]; exact ⟨rfl,rfl⟩
theorem ZEh (F : Fm) {c d : Nat} (h : zcl (F.cls c) (F.cls d) = 1) : bw F (bxd F c d).1 = F.one + F.sgn (F.ng c):=by
 have hc : F.cls c = 1∧F.cls d = 1:=by
  unfold zcl at h
  by_cases q : F.cls c = 4∨F.cls d = 4
  ·rw [if_pos q] at h; omega
  ·rw [if_neg q] at h
   by_cases r : F.cls c = 5∨F.cls d = 5
   ·rw [if_pos r] at h; omega
   ·rw [if_neg r] at h
    by_cases s : F.cls c = 1∧F.cls d = 1
    ·exact s
    ·rw [if_neg s] at h; omega
 have hs : (bx F c d).1 = (0,F.ng c):=by
  unfold bx sd
  rw [h,hc.1]; simp
 unfold bxd bw
 simp only [if_pos h,hs]
 cases F.ng c <;> simp
set_option maxHeartbeats 16000000 in
theorem ZqZ (J : Al G T g) (F : Fm) {md : Int} (hm : 1≤md∧md≤5) {a b c d : Nat} (ha : a < 2 * F.sg) (hb : b < 2 * F.sg) (hc : c < 2 * F.sg) (hd : d < 2 * F.sg) :
  run G T 280 [.int .u8 F.u,.int .u8 md,zA a b,zA c d] = some (.tup [zrA (sdW F md a b c d).1 (sdW F md a b c d).2,.bool (sdS F a b c d)]):=by
 rw [Zab G T J.J.ZqZ]
 have c1:=ZbE J F ha hb
 have c2:=ZbE J F hc hd
 have f1:=ZaC J F ha hb
 have n0:=ZdQ J F (x:=0)
 have n1:=ZdQ J F (x:=1)
 have b1:=fun h => Zkf J F ha hb h
 have b2:=fun h => Zkf J F hc hd h
 have i1:=ZgU J F (n:=false)
 have sp:=ZbZ J F (ZaP hc)
 have on:=Zom J F (n:=F.ng c)
 obtain ⟨dc1,dc2⟩:=ZEg F c d
 have cj:=ZoW J F (ZaY F dc1).1 (ZaY F (bx_c F c d).2).1
 rw [(ZrW F dc1).1,(ZrW F (bx_c F c d).2).2,show sM (bx F c d).2 = (bxd F c d).2 from rfl] at cj
 have t1:=ZhF J F hm (bx_c F a b).1 (bx_c F a b).2 dc1 dc2
 have w:=fun (to : Nat) => Zjk J F (to:=to) (ZtF F md (sT_c (bx_c F a b).1 dc1) (sM_c (sT_c (bx_c F a b).2 dc2))).1 (ZtF F md (sT_c (bx_c F a b).1 dc2) (sT_c (bx_c F a b).2 dc1)).1
 have w1:=w (F.inf false)
 have w0:=w 0
 clear w
 rw [ZmQ F md (Or.inr rfl) (sT_c (bx_c F a b).1 dc1) (sM_c (sT_c (bx_c F a b).2 dc2)),ZmQ F md (Or.inr rfl) (sT_c (bx_c F a b).1 dc2) (sT_c (bx_c F a b).2 dc1)] at w1
 rw [ZmQ F md (Or.inl rfl) (sT_c (bx_c F a b).1 dc1) (sM_c (sT_c (bx_c F a b).2 dc2)),ZmQ F md (Or.inl rfl) (sT_c (bx_c F a b).1 dc2) (sT_c (bx_c F a b).2 dc1)] at w0
 rw [show sP md (sT (bx F a b).1 (bxd F c d).1) (sM (sT (bx F a b).2 (bxd F c d).2)) = (sdP F md a b c d).1 from rfl,show sP md (sT (bx F a b).1 (bxd F c d).2) (sT (bx F a b).2 (bxd F c d).1) = (sdP F md a b c d).2 from rfl] at w1 w0
 rw [show sd F a (decide (zcl (F.cls a) (F.cls b) = 3)) = (bx F a b).1 from rfl,show sd F b (decide (zcl (F.cls a) (F.cls b) = 3)) = (bx F a b).2 from rfl] at b1
 rw [show sd F c (decide (zcl (F.cls c) (F.cls d) = 3)) = (bx F c d).1 from rfl,show sd F d (decide (zcl (F.cls c) (F.cls d) = 3)) = (bx F c d).2 from rfl] at b2
 have ra:=Zhe F a b
 have rc:=Zhe F c d
 have fa:=Zer F (a:=a) (b:=b)
 have h11:=ZEh F (c:=c) (d:=d)
 have h12 : zcl (F.cls c) (F.cls d)≠1→bw F (bx F c d).1 = bw F (bxd F c d).1:=fun h => by unfold bxd; simp only [if_neg h]
 unfold sdW sdS
 generalize (addW F md (bw F (sT (bx F a b).1 (bxd F c d).1)) (bw F (sM (sT (bx F a b).2 (bxd F c d).2)))).1 = u1 at *
 generalize (addW F md (bw F (sT (bx F a b).1 (bxd F c d).2)) (bw F (sT (bx F a b).2 (bxd F c d).1))).1 = u2 at *
 generalize sdP F md a b c d = P at *
 generalize F.one + F.sgn (F.ng c) = one at *
 generalize F.ng c = nc at *
 generalize F.ex c = xc at *
 generalize F.fc c = yc at *
 generalize bw F (bx F a b).1 = p1 at *
 generalize bw F (bx F a b).2 = p2 at *
 generalize bw F (bx F c d).1 = q1 at *
 generalize bw F (bx F c d).2 = q2 at *
 generalize bw F (bxd F c d).1 = r1 at *
 generalize bw F (bxd F c d).2 = r2 at *
 generalize zcl (F.cls a) (F.cls b) = x at *
 generalize zcl (F.cls c) (F.cls d) = y at *
 have f1 : (x≤2∧run G T 250 [.int .u8 F.u,zA a b] = some (.bool true))∨(¬ x≤2∧run G T 250 [.int .u8 F.u,zA a b] = some (.bool false)):=by
  by_cases h : x≤2
  ·rw [decide_eq_true (fa.2 h)] at f1; exact Or.inl ⟨h,f1⟩
  ·rw [decide_eq_false (fun q => h (fa.1 q))] at f1; exact Or.inr ⟨h,f1⟩
 clear fa
 by_cases k0 : x≤2∧y = 2
 ·obtain ⟨x2,rfl⟩:=k0
  rw [if_pos ⟨x2,rfl⟩,decide_eq_true (show x≤2∧(2 : Int) = 2 from ⟨x2,rfl⟩)]
  rcases f1 with ⟨_,f1⟩ | ⟨h,_⟩
  ·simp only [zA,zrA,cast0,Bool.not_true] at *
   repeat' (first | simp only [seval,exC,ZbB,c1,c2,f1] | simp (disch:=omega) only [dxB])
  ·exact absurd x2 h
 ·rw [if_neg k0,decide_eq_false k0]
  by_cases k4 : x = 4∨y = 4
  ·rw [if_pos k4]
   clear b1 b2 h11 h12
   simp only [zA,zrA,cast0,Bool.not_false] at *
   by_cases h4 : x = 4
   ·subst h4
    rcases f1 with ⟨h,_⟩ | ⟨_,f1⟩
    ·exact absurd h (by decide)
    ·repeat' (first | simp only [seval,exC,ZbB,c1,c2,f1,n0] | simp (disch:=omega) only [dxB])
   ·have h5 : y = 4:=by omega
    subst h5
    rcases f1 with ⟨_,f1⟩ | ⟨_,f1⟩ <;> repeat' (first | simp only [seval,exC,ZbB,c1,c2,f1,h4,n0] | simp (disch:=omega) only [dxB])
  ·rw [if_neg k4]
   have e4 : ¬ x = 4:=fun h => k4 (Or.inl h)
   have f4 : ¬ y = 4:=fun h => k4 (Or.inr h)
   have b1:=b1 e4
   have b2:=b2 f4
   by_cases k1 : x = y
   ·rw [if_pos k1]
    subst k1
    have x2 : ¬ x = 2:=fun h => k0 ⟨by omega,h⟩
    clear h11 h12 k0 k4
    simp only [zA,zrA,cast0,Bool.not_false,Int.cast_ofNat_Int] at *
    rcases f1 with ⟨_,f1⟩ | ⟨_,f1⟩ <;> repeat' (first | simp only [seval,exC,ZbB,c1,c2,f1,e4,x2,n1] | simp (disch:=omega) only [dxB])
   ·rw [if_neg k1]
    by_cases y3 : y = 3
    ·subst y3
     rw [if_pos rfl]
     have e:=h12 (by decide)
     subst e
     clear h11 h12 k0 k4 ra rc
     simp only [zA,zrA,cast0,Bool.not_false] at *
     rcases f1 with ⟨_,f1⟩ | ⟨_,f1⟩ <;> repeat' (first | simp only [seval,exC,ZbB,c1,c2,f1,e4,k1,b1,b2,cj,t1,w0] | simp (disch:=omega) only [dxB])
    ·rw [if_neg y3]
     by_cases y1 : y = 1
     ·subst y1
      have e:=h11 rfl
      subst e
      clear h11 h12 k0 k4 rc
      by_cases x3 : x = 3
      ·subst x3
       rw [if_pos rfl]
       simp only [zA,zrA,fldA,cast0,Bool.not_false] at *
       rcases f1 with ⟨h,_⟩ | ⟨_,f1⟩
       ·exact absurd h (by decide)
       ·repeat' (first | simp only [seval,exC,ZbB,fd_3,c1,c2,f1,sp,on,b1,b2,cj,t1,i1,w1] | simp (disch:=omega) only [dxB])
      ·rw [if_neg x3]
       simp only [zA,zrA,fldA,cast0,Bool.not_false,Int.cast_ofNat_Int] at *
       rcases f1 with ⟨_,f1⟩ | ⟨_,f1⟩ <;> repeat' (first | simp only [seval,exC,ZbB,fd_3,c1,c2,f1,e4,k1,x3,sp,on,b1,b2,cj,t1,i1,w1] | simp (disch:=omega) only [dxB])
     ·have y2 : y = 2:=by omega
      subst y2
      have x3 : x = 3:=by omega
      subst x3
      rw [if_pos rfl]
      have e:=h12 (by decide)
      subst e
      clear h11 h12 k0 k4 ra rc
      simp only [zA,zrA,cast0,Bool.not_false] at *
      rcases f1 with ⟨h,f1⟩ | ⟨_,f1⟩
      ·omega
      ·repeat' (first | simp only [seval,exC,ZbB,c1,c2,f1,b1,b2,cj,t1,i1,w1] | simp (disch:=omega) only [dxB])
end Go.Cv
namespace Go.Cv
variable {G : Nat→Option (List AV)} {T : Tbl} {g : Nat}
theorem ZDJ : DyA true ⟨false,0,0⟩ = .agg [.bool false,.nil,.int .i64 0]:=by simp only [DyA,A3,Zai,Ztx.symm]
theorem Zon (J : Al G T g) (F : Fm) {w : Nat} (hw : w < 2 * F.sg) : run G T 306 [.int .u8 F.u,.int .u64 (w : Int)] = some (.bool (F.ng w)):=by
 rw [Zab G T J.J.Zon]
 have h2:=ZbZ J F (ZaP hw)
 generalize F.ng w = n at *
 simp only [fldA] at *
 repeat' (first | simp only [seval,exC,ZkQ,fd_3,h2] | simp (disch:=omega) only [dxB])
theorem Zvy (J : Al G T g) {z y : Bool} {a b : Dy} (ha : Bd a 16384) (hb : Bd b 16384) : ∃ z',run G T 154 [DyA z a,DyA y b] = some (DyA z' (mulD a b)):=by
 obtain ⟨p1,p2,p3⟩:=ha
 obtain ⟨q1,q2,q3⟩:=hb
 have l1:=Zaa a.m
 have l2:=Zaa b.m
 exact Zkc J (z:=z) (y:=y) (a:=a) (b:=b) (by omega) (by omega) (by omega) (by omega)
theorem Zca (J : Al G T g) (F : Fm) {a b : Nat} {minus : Bool} (ha : a < 2 * F.sg) (hb : b < 2 * F.sg) (fa : F.fin a) (fb : F.fin b) :
  ∃ z,run G T 301 [.int .u8 F.u,.int .u64 (a : Int),.int .u64 (b : Int),.bool minus] = some (numA z (tm F a b minus)):=by
 apply exP
 rw [Zab G T J.J.Zca]
 obtain ⟨z1,v1⟩:=ZaX J F (ZaP ha) fa
 obtain ⟨z2,v2⟩:=ZaX J F (ZaP hb) fb
 rw [← Zdx fa] at v1
 rw [← Zdx fb] at v2
 obtain ⟨z3,m1⟩:=Zvy J (z:=z1) (y:=z2) ((ZbO F a).mono (by decide)) ((ZbO F b).mono (by decide))
 have n1:=Zoj J (z:=z3) (d:=mulD (F.vl a) (F.vl b))
 have g1:=Zon J F ha
 have g2:=Zon J F hb
 unfold tm
 generalize negD (mulD (F.vl a) (F.vl b)) = e at *
 generalize mulD (F.vl a) (F.vl b) = d at *
 generalize F.vl a = va at *
 generalize F.vl b = vb at *
 generalize F.ng a = na at *
 generalize F.ng b = nb at *
 have q1 : ((na != nb) != true) = decide (na = nb):=by cases na <;> cases nb <;> rfl
 have q2 : ((na != nb) != false) = !decide (na = nb):=by cases na <;> cases nb <;> rfl
 simp only [DyA,A3,numA] at *
 cases minus
 ·rw [q2]
  simp only [Bool.false_eq_true,if_false]
  repeat' (first | simp only [seval,exC,Zfq,v1,v2,m1,g1,g2] | simp (disch:=omega) only [dxB])
  all_goals exact ⟨_,rfl,z3,by cases na <;> cases nb <;> rfl⟩
 ·rw [q1]
  simp only [if_true]
  repeat' (first | simp only [seval,exC,Zfq,v1,v2,m1,n1,g1,g2] | simp (disch:=omega) only [dxB])
  all_goals exact ⟨_,rfl,z3,by cases na <;> cases nb <;> rfl⟩
def cellsN (z : Bool) (x : Dy × Bool) : List AV:=[.bool x.1.n,D z (dl x.1.m),.int .i64 x.1.e,.bool x.2]
theorem Ztm (e : Env) (h : Heap) : evL G T Zjw e h = kS G T (evL G T ZcO (keepE [0,1,4,6,7,8] e) h) Zjw:=Zae G T rfl e h
section
variable (a1 a2 a3 a4 b1 b2 b3 b4 c1 c2 c3 c4 : AV) (k : IntKind) (h : Mem) (l : List AV)
theorem ZBD : iaddrV 4 (.imm 2 [a1,a2,a3,a4,b1,b2,b3,b4]) (.int k 0) = some (.iptr [a1,a2,a3,a4,b1,b2,b3,b4] 0):=rfl
theorem ZBE : iaddrV 4 (.imm 2 [a1,a2,a3,a4,b1,b2,b3,b4]) (.int k 1) = some (.iptr [a1,a2,a3,a4,b1,b2,b3,b4] 4):=rfl
theorem r3_0 : rdAt G h 3 (.iptr (a1 :: a2 :: a3 :: l) 0) = some [a1,a2,a3]:=by simp [rdAt]
theorem r3_4 : rdAt G h 3 (.iptr (a1 :: a2 :: a3 :: a4 :: b1 :: b2 :: b3 :: l) 4) = some [b1,b2,b3]:=by simp [rdAt]
theorem r1_3 : rdAt G h 1 (.iptr (a1 :: a2 :: a3 :: a4 :: l) 3) = some [a4]:=by simp [rdAt]
theorem r1_7 : rdAt G h 1 (.iptr (a1 :: a2 :: a3 :: a4 :: b1 :: b2 :: b3 :: b4 :: l) 7) = some [b4]:=by simp [rdAt]
end
theorem ZAL (d : Dy) : addD ⟨false,0,0⟩ d = d:=by unfold addD; rw [if_pos rfl]
theorem Zrk (d : Dy) : (d.m = 0∧sgnD d = 0)∨(d.m≠0∧¬ sgnD d = 0):=by
 by_cases h : d.m = 0
 ·exact Or.inl ⟨h,ZcJ.2 h⟩
 ·exact Or.inr ⟨h,fun q => h (ZcJ.1 q)⟩
set_option maxHeartbeats 8000000 in
theorem ZmI (J : Al G T g) {md : Int} {z y : Bool} {x w : Dy × Bool} (hx : Bd x.1 1073741824) (hw : Bd w.1 1073741824) :
  ∃ z',run G T 275 [.int .u8 md,.imm 2 (cellsN z x ++ cellsN y w)] = some (.tup [DyA z' (addD x.1 w.1),.bool (zsg md x w)]):=by
 rw [Zab G T J.J.ref12_Sum]
 obtain ⟨z1,d1⟩:=Zef J (z:=true) (y:=z) (a:=⟨false,0,0⟩) (b:=x.1) ⟨by simp only [Zag]; omega,by simp,by simp⟩ (hx.mono (by decide))
 rw [ZAL,ZDJ] at d1
 obtain ⟨z2,d2⟩:=Zef J (z:=z1) (y:=y) (a:=x.1) (b:=w.1) (hx.mono (by decide)) (hw.mono (by decide))
 have s1:=Zbi J (z:=z) (d:=x.1)
 have s2:=Zbi J (z:=y) (d:=w.1)
 refine ⟨z2,?_⟩
 unfold zsg cellsN
 have c1:=Zrk x.1
 have c2:=Zrk w.1
 generalize addD x.1 w.1 = s at *
 clear hx hw
 obtain ⟨d,n⟩:=x
 obtain ⟨e,k⟩:=w
 simp only at *
 rcases c1 with ⟨c1,q1⟩ | ⟨c1,q1⟩
 ·rw [q1] at s1
  rcases c2 with ⟨c2,q2⟩ | ⟨c2,q2⟩
  ·rw [q2] at s2
   by_cases hk : k = n
   ·subst hk
    rw [if_pos ⟨c1,c2,rfl⟩]
    simp only [DyA,A3,List.cons_append,List.nil_append] at *
    repeat' (first | simp only [seval,exC,Zex,Zhk,Ztm,ZcO,ZBD,ZBE,fa_i,r3_0,r3_4,r1_3,r1_7,wr_1,wr1,wr_2,wr2,d1,d2,s1,s2] | simp (disch:=omega) only [dxB])
   ·rw [if_neg (fun h => hk h.2.2.symm)]
    simp only [DyA,A3,List.cons_append,List.nil_append] at *
    repeat' (first | simp only [seval,exC,Zex,Zhk,Ztm,ZcO,ZBD,ZBE,fa_i,r3_0,r3_4,r1_3,r1_7,wr_1,wr1,wr_2,wr2,d1,d2,s1,s2,hk] | simp (disch:=omega) only [dxB])
  ·rw [if_neg (fun h => c2 h.2.1)]
   generalize sgnD e = t at *
   simp only [DyA,A3,List.cons_append,List.nil_append] at *
   repeat' (first | simp only [seval,exC,Zex,Zhk,Ztm,ZcO,ZBD,ZBE,fa_i,r3_0,r3_4,r1_3,r1_7,wr_1,wr1,wr_2,wr2,d1,d2,s1,s2,q2] | simp (disch:=omega) only [dxB])
 ·rw [if_neg (fun h => c1 h.1)]
  generalize sgnD d = t at *
  simp only [DyA,A3,List.cons_append,List.nil_append] at *
  repeat' (first | simp only [seval,exC,Zex,Zhk,Ztm,ZcO,ZBD,ZBE,fa_i,r3_0,r3_4,r1_3,r1_7,wr_1,wr1,wr_2,wr2,d1,d2,s1,q1] | simp (disch:=omega) only [dxB])
theorem ZdR (J : Al G T g) (F : Fm) {md : Int} (hm : 1≤md∧md≤5) {z y s : Bool} {d b : Dy} (hd : Bd d 65537) (hb : Bd b 65537) (b0 : b.m≠0) :
  run G T 276 [.int .u8 F.u,.int .u8 md,DyA z d,.bool s,DyA y b] = some (.tup [.int .u64 ((ptQ F md d s b).1 : Int),.int .u8 ((ptQ F md d s b).2 : Int)]):=by
 rw [Zab G T J.J.ZdR]
 have s1:=Zbi J (z:=z) (d:=d)
 have c1:=Zrk d
 unfold ptQ
 rcases c1 with ⟨c1,q1⟩ | ⟨c1,q1⟩
 ·rw [q1] at s1
  rw [if_pos c1]
  have w1:=Zbe J F (n:=s) (w:=0)
  rw [Nat.zero_mod,Nat.zero_add] at w1
  generalize F.sgn s = S at *
  simp only [DyA,A3,cast0] at *
  repeat' (first | simp only [seval,exC,Zdp,s1,w1] | simp (disch:=omega) only [dxB])
 ·rw [if_neg c1]
  have hbl:=hd.bl
  have hbb:=hb.bl
  have r1:=ZqX J F hm (z:=z) (y:=y) c1 b0 (hd.mono (by decide)) (hb.mono (by decide)) (by omega) (by omega)
  generalize quoW F md d b = S at *
  generalize sgnD d = t at *
  simp only [DyA,A3] at *
  repeat' (first | simp only [seval,exC,Zdp,s1,q1,r1] | simp (disch:=omega) only [dxB])
end Go.Cv
namespace Go.Cv
variable {G : Nat→Option (List AV)} {T : Tbl} {g : Nat}
def tw (F : Fm) (md : Int) (x y : Dy × Bool) (b : Dy) : Nat × Nat:=ptQ F md (addD x.1 y.1) (zsg md x y) b
theorem ZGj (F : Fm) (md : Int) {x y : Dy × Bool} {b : Dy} (hx : Nz x.1) (hy : Nz y.1) : tw F md x y b = tw F md y x b:=by
 unfold tw zsg
 rw [ZtB hx hy]
 by_cases h : x.1.m = 0∧y.1.m = 0∧x.2 = y.2
 ·rw [if_pos h,if_pos ⟨h.2.1,h.1,h.2.2.symm⟩,h.2.2]
 ·rw [if_neg h,if_neg (fun q => h ⟨q.2.1,q.1,q.2.2.symm⟩)]
theorem tw_s (F : Fm) (md : Int) {x y : Dy × Bool} {b : Dy} {s : Bool} (h : (addD x.1 y.1).m = 0→s = zsg md x y) : ptQ F md (addD x.1 y.1) s b = tw F md x y b:=by
 unfold tw ptQ
 by_cases h0 : (addD x.1 y.1).m = 0
 ·rw [if_pos h0,if_pos h0,h h0]
 ·rw [if_neg h0,if_neg h0]
theorem Zzw {d : Dy} : negD (negD d) = d:=by
 unfold negD
 by_cases h : d.m = 0
 ·rw [if_pos h,if_pos h]
 ·rw [if_neg h,if_neg h]; simp
def mulR (F : Fm) (md : Int) (a b c d : Nat) : (Nat × Nat) × (Nat × Nat):=(tw F md (tm F a c false) (tm F b d true) oneD,tw F md (tm F a d false) (tm F b c false) oneD)
def divR (F : Fm) (md : Int) (a b c d : Nat) : (Nat × Nat) × (Nat × Nat):=(tw F md (tm F a c false) (tm F b d false) (sqD F c d),tw F md (tm F b c false) (tm F a d true) (sqD F c d))
def mulZ (F : Fm) (md : Int) (a b c d : Nat) : (Nat × Nat) × (Nat × Nat):=if smS F a b c d then smW F md a b c d else mulR F md a b c d
def divZ (F : Fm) (md : Int) (a b c d : Nat) : (Nat × Nat) × (Nat × Nat):=if sdS F a b c d then sdW F md a b c d else divR F md a b c d
theorem ZGr : Nz oneD:=⟨fun h => absurd h (by decide),fun _ => rfl⟩
theorem Zyb {K : Nat} (h : 1≤K) : Bd oneD K:=by
 have : blen 1 = 1:=by decide
 exact ⟨by show blen 1≤K; omega,by show -(K : Int)≤0; omega,by show (0 : Int)≤K; omega⟩
theorem ZFW (F : Fm) {c d : Nat} (hc : c < 2 * F.sg) (hd : d < 2 * F.sg) (h : zcl (F.cls c) (F.cls d) = 2) : (sqD F c d).m≠0:=by
 have hf:=Zer F (a:=c) (b:=d)
 obtain ⟨fc,fd⟩:=hf.2 (by omega)
 intro h0
 obtain ⟨L,l1,l2⟩ : ∃ L : Int,LoE (F.vl c) L∧LoE (F.vl d) L:=⟨F.low,ZCY fc,ZCY fd⟩
 have e:=ZJG F l1 l2
 rw [ZcG h0] at e
 have n1:=ZIz (iv (F.vl c) L)
 have n2:=ZIz (iv (F.vl d) L)
 have z : ∀ {w : Nat},w < 2 * F.sg→F.fin w→LoE (F.vl w) L→iv (F.vl w) L * iv (F.vl w) L = 0→F.cls w = 1:=fun {w} hw fw lw q => by
  have q0 : iv (F.vl w) L = 0:=by rcases Int.mul_eq_zero.1 q with q | q <;> exact q
  have:=ZHN (Zes F w) (b:=⟨false,0,0⟩) ⟨fun _ => rfl,fun h => absurd rfl h⟩ lw (Or.inl rfl) (by rw [q0,ZcG rfl])
  exact (Zss hw fw).2 (by rw [this])
 have c1:=z hc fc l1 (by omega)
 have c2:=z hd fd l2 (by omega)
 unfold zcl at h
 rw [c1,c2] at h
 simp at h
set_option maxHeartbeats 8000000 in
theorem Zqv (J : Al G T g) (F : Fm) {md : Int} (hm : 1≤md∧md≤5) {a b c d : Nat} (ha : a < 2 * F.sg) (hb : b < 2 * F.sg) (hc : c < 2 * F.sg) (hd : d < 2 * F.sg) :
  run G T 252 [.int .u8 F.u,.int .u8 md,zA a b,zA c d] = some (.tup [zrA (mulZ F md a b c d).1 (mulZ F md a b c d).2,.int .i64 0]):=by
 rw [Zab G T J.J.Zqv]
 have s1:=Znz J F hm ha hb hc hd
 unfold mulZ
 by_cases hs : smS F a b c d = true
 ·rw [if_pos hs]
  rw [hs] at s1
  generalize smW F md a b c d = S at *
  simp only [zA,zrA] at *
  repeat' (first | simp only [seval,exC,ZhX,s1] | simp (disch:=omega) only [dxB])
 ·rw [if_neg hs]
  rw [Bool.not_eq_true] at hs
  rw [hs] at s1
  obtain ⟨z1,y1,g1⟩:=ZdL J F ha hb
  obtain ⟨z2,y2,g2⟩:=ZdL J F hc hd
  obtain ⟨z,y,s,t,t1,e1,e2⟩:=Zep J F (md:=md) (z1:=z1) (z2:=y1) (y1:=z2) (y2:=y2) (n1:=F.ng a) (n2:=F.ng b) (k1:=F.ng c) (k2:=F.ng d) (Zes F a) (Zes F b) (Zes F c) (Zes F d) (ZbO F a) (ZbO F b) (ZbO F c) (ZbO F d)
  obtain ⟨zo,i1⟩:=ZyK J
  have b1:=ZeQ F a c
  have b2:=(ZeQ F b d).neg
  have b3:=ZeQ F a d
  have b4:=ZeQ F b c
  have k1:=ZfD J F hm (z:=z) (z':=y) (y:=zo) (s:=s) (t:=t) (ZnE (Zdc (F.vl a) (F.vl c)) (ZrK (Zdc (F.vl b) (F.vl d)))) (ZnE (Zdc (F.vl a) (F.vl d)) (Zdc (F.vl b) (F.vl c))) ZGr ((ZhT b1 b2).mono (by decide)) ((ZhT b3 b4).mono (by decide)) (Zyb (by decide)) (by decide)
  have r1 : ptQ F md (addD (mulD (F.vl a) (F.vl c)) (negD (mulD (F.vl b) (F.vl d)))) s oneD = (mulR F md a b c d).1:=by
   have:=tw_s F md (x:=tm F a c false) (y:=tm F b d true) (b:=oneD) (s:=s) (fun h => by
    have h2:=e1 h
    unfold tm
    simp only [Bool.false_eq_true,if_false,if_true,Bool.bne_false,Bool.bne_true]
    exact h2)
   exact this
  have r2 : ptQ F md (addD (mulD (F.vl a) (F.vl d)) (mulD (F.vl b) (F.vl c))) t oneD = (mulR F md a b c d).2:=by
   have:=tw_s F md (x:=tm F a d false) (y:=tm F b c false) (b:=oneD) (s:=t) (fun h => by
    have h2:=e2 h
    unfold tm
    simp only [Bool.false_eq_true,if_false,Bool.bne_false]
    exact h2)
   exact this
  rw [r1,r2] at k1
  clear r1 r2 e1 e2 b1 b2 b3 b4
  generalize mulR F md a b c d = R at *
  generalize smW F md a b c d = S at *
  generalize addD (mulD (F.vl a) (F.vl c)) (negD (mulD (F.vl b) (F.vl d))) = X at *
  generalize addD (mulD (F.vl a) (F.vl d)) (mulD (F.vl b) (F.vl c)) = Y at *
  generalize oneD = one at *
  generalize F.vl a = va at *
  generalize F.vl b = vb at *
  generalize F.vl c = vc at *
  generalize F.vl d = vd at *
  generalize F.ng a = na at *
  generalize F.ng b = nb at *
  generalize F.ng c = nc at *
  generalize F.ng d = nd at *
  simp only [zA,zrA,gaussA,workA,DyA,A3] at *
  repeat' (first | simp only [seval,exC,ZhX,s1,g1,g2,t1,i1,k1] | simp (disch:=omega) only [dxB])
theorem ZJy (x y z w : AV) : fieldA true 0 3 (.agg [x,y,z,w]) = some (.agg [x,y,z]):=rfl
set_option maxHeartbeats 8000000 in
theorem Zqu (J : Al G T g) (F : Fm) {md : Int} (hm : 1≤md∧md≤5) {a b c d : Nat} (ha : a < 2 * F.sg) (hb : b < 2 * F.sg) (hc : c < 2 * F.sg) (hd : d < 2 * F.sg) :
  run G T 257 [.int .u8 F.u,.int .u8 md,zA a b,zA c d] = some (.tup [zrA (divZ F md a b c d).1 (divZ F md a b c d).2,.int .i64 0]):=by
 rw [Zab G T J.J.Zqu]
 have s1:=Zny J F hm ha hb hc hd
 unfold divZ
 by_cases hs : sdS F a b c d = true
 ·rw [if_pos hs]
  rw [hs] at s1
  generalize sdW F md a b c d = S at *
  simp only [zA,zrA] at *
  repeat' (first | simp only [seval,exC,ZhW,s1] | simp (disch:=omega) only [dxB])
 ·rw [if_neg hs]
  have hz : zcl (F.cls c) (F.cls d) = 2:=by
   unfold sdS at hs
   simp only [Bool.not_eq_true',decide_eq_false_iff_not,Decidable.not_not] at hs
   exact hs.2
  have hq:=ZFW F hc hd hz
  rw [Bool.not_eq_true] at hs
  rw [hs] at s1
  obtain ⟨z1,y1,g1⟩:=ZdL J F ha hb
  obtain ⟨z2,y2,g2⟩:=ZdL J F hc hd
  obtain ⟨u1,m1⟩:=Zbd J (z:=z2) (y:=z2) (n:=F.ng c) (k:=F.ng c) (Zes F c) (Zes F c) ((ZbO F c).mono (by decide)) ((ZbO F c).mono (by decide))
  obtain ⟨u2,m2⟩:=Zbd J (z:=y2) (y:=y2) (n:=F.ng d) (k:=F.ng d) (Zes F d) (Zes F d) ((ZbO F d).mono (by decide)) ((ZbO F d).mono (by decide))
  have bc:=ZeQ F c c
  have bd:=ZeQ F d d
  obtain ⟨u3,q1⟩:=Zmt J (z:=u1) (y:=u2) (bc.mono (by decide)) (bd.mono (by decide)) (Zaw (Zdc (F.vl c) (F.vl c)) (bc.mono (by decide))) (Zaw (Zdc (F.vl d) (F.vl d)) (bd.mono (by decide)))
  rw [show addD (mulD (F.vl c) (F.vl c)) (mulD (F.vl d) (F.vl d)) = sqD F c d from rfl] at q1
  obtain ⟨u4,n1⟩:=ZfC J (z:=y2) (n:=F.ng d) (Zes F d) ((ZbO F d).mono (by decide))
  obtain ⟨z,y,s,t,t1,e1,e2⟩:=Zep J F (md:=md) (z1:=z1) (z2:=y1) (y1:=z2) (y2:=u4) (n1:=F.ng a) (n2:=F.ng b) (k1:=F.ng c) (k2:=!F.ng d) (Zes F a) (Zes F b) (Zes F c) (ZrK (Zes F d)) (ZbO F a) (ZbO F b) (ZbO F c) (ZbO F d).neg
  simp only [ZBU,Zzw] at t1 e1 e2
  have b1:=ZeQ F a c
  have b2:=ZeQ F b d
  have b3:=(ZeQ F a d).neg
  have b4:=ZeQ F b c
  have k1:=ZfD J F hm (z:=z) (z':=y) (y:=u3) (s:=s) (t:=t) (ZnE (Zdc (F.vl a) (F.vl c)) (Zdc (F.vl b) (F.vl d))) (ZnE (ZrK (Zdc (F.vl a) (F.vl d))) (Zdc (F.vl b) (F.vl c))) (ZAK F c d) ((ZhT b1 b2).mono (by decide)) ((ZhT b3 b4).mono (by decide)) ((ZhT bc bd).mono (by decide)) hq
  have r1 : ptQ F md (addD (mulD (F.vl a) (F.vl c)) (mulD (F.vl b) (F.vl d))) s (sqD F c d) = (divR F md a b c d).1:=by
   have:=tw_s F md (x:=tm F a c false) (y:=tm F b d false) (b:=sqD F c d) (s:=s) (fun h => by
    have h2:=e1 h
    unfold tm
    simp only [Bool.false_eq_true,if_false,Bool.bne_false]
    rw [show (F.ng b != F.ng d) = !(F.ng b != !F.ng d) by cases F.ng b <;> cases F.ng d <;> rfl]
    exact h2)
   exact this
  have r2 : ptQ F md (addD (negD (mulD (F.vl a) (F.vl d))) (mulD (F.vl b) (F.vl c))) t (sqD F c d) = (divR F md a b c d).2:=by
   have:=tw_s F md (x:=tm F a d true) (y:=tm F b c false) (b:=sqD F c d) (s:=t) (fun h => by
    have h2:=e2 h
    unfold tm
    simp only [Bool.false_eq_true,if_false,if_true,Bool.bne_false,Bool.bne_true]
    rw [show (!(F.ng a != F.ng d)) = (F.ng a != !F.ng d) by cases F.ng a <;> cases F.ng d <;> rfl]
    exact h2)
   rw [show (divR F md a b c d).2 = tw F md (tm F b c false) (tm F a d true) (sqD F c d) from rfl,ZGj F md (Zrv F b c false).2 (Zrv F a d true).2]
   exact this
  rw [r1,r2] at k1
  clear r1 r2 e1 e2 b1 b2 b3 b4 bc bd hq hz
  generalize divR F md a b c d = R at *
  generalize sdW F md a b c d = S at *
  generalize addD (mulD (F.vl a) (F.vl c)) (mulD (F.vl b) (F.vl d)) = X at *
  generalize addD (negD (mulD (F.vl a) (F.vl d))) (mulD (F.vl b) (F.vl c)) = Y at *
  generalize sqD F c d = by' at *
  generalize mulD (F.vl c) (F.vl c) = cc at *
  generalize mulD (F.vl d) (F.vl d) = dd at *
  generalize negD (F.vl d) = nvd at *
  generalize (!F.ng d) = nnd at *
  generalize (F.ng c != F.ng c) = x1 at *
  generalize (F.ng d != F.ng d) = x2 at *
  generalize F.vl a = va at *
  generalize F.vl b = vb at *
  generalize F.vl c = vc at *
  generalize F.vl d = vd at *
  generalize F.ng a = na at *
  generalize F.ng b = nb at *
  generalize F.ng c = nc at *
  generalize F.ng d = nd at *
  simp only [zA,zrA,gaussA,workA,numA,DyA,A3] at *
  repeat' (first | simp only [seval,exC,ZhW,ZJy,s1,g1,g2,m1,m2,q1,n1,t1,k1] | simp (disch:=omega) only [dxB])
theorem ZxQ (J : Al G T g) : ∃ z,run G T 20 [.int .i64 1] = some (DyA z oneD):=by
 apply exP
 rw [Zab G T J.C.Zoi]
 obtain ⟨z1,h1⟩:=Zjh J (n:=1) (by decide)
 have hl : (dl 1).length < 17179869184:=by
  have h1:=Zaa 1
  have h2 : blen 1 = 1:=by decide
  omega
 obtain ⟨z2,h2⟩:=ZaQ J (n:=false) (z:=z1) (a:=1) (e:=0) hl (by omega)
 rw [show mkD false 1 0 = oneD from ZsI (by decide)] at h2
 have w1 : IntKind.u64.wrap 1 = 1:=rfl
 rw [show ((1 : Nat) : Int) = 1 from rfl] at h1
 generalize oneD = d at *
 simp only [DyA,A3] at *
 repeat' (first | simp only [seval,exC,ZfV,w1,h1,h2] | simp (disch:=omega) only [dxB])
 all_goals exact ⟨_,rfl,z2,rfl⟩
theorem Zlh (J : Al G T g) (F : Fm) {a b c d : Nat} (ha : a < 2 * F.sg) (hb : b < 2 * F.sg) (hc : c < 2 * F.sg) (hd : d < 2 * F.sg) (fa : F.fin a) (fb : F.fin b) (fc : F.fin c) (fd : F.fin d) :
  ∃ z y u v,run G T 274 [.int .u8 F.u,zA a b,zA c d] = some (.tup [gaussA z y (tm F a c false) (tm F b d true),gaussA u v (tm F a d false) (tm F b c false)]):=by
 rw [Zab G T J.J.Zlh]
 obtain ⟨z,h1⟩:=Zca J F (minus:=false) ha hc fa fc
 obtain ⟨y,h2⟩:=Zca J F (minus:=true) hb hd fb fd
 obtain ⟨u,h3⟩:=Zca J F (minus:=false) ha hd fa fd
 obtain ⟨v,h4⟩:=Zca J F (minus:=false) hb hc fb fc
 refine ⟨z,y,u,v,?_⟩
 generalize tm F a c false = t1 at *
 generalize tm F b d true = t2 at *
 generalize tm F a d false = t3 at *
 generalize tm F b c false = t4 at *
 simp only [zA,gaussA,numA] at *
 repeat' (first | simp only [seval,exC,Zfp,h1,h2,h3,h4] | simp (disch:=omega) only [dxB])
theorem ZjD (J : Al G T g) (F : Fm) {a b c d : Nat} (ha : a < 2 * F.sg) (hb : b < 2 * F.sg) (hc : c < 2 * F.sg) (hd : d < 2 * F.sg) (fa : F.fin a) (fb : F.fin b) (fc : F.fin c) (fd : F.fin d) :
  ∃ z y u v w,run G T 281 [.int .u8 F.u,zA a b,zA c d] = some (.tup [gaussA z y (tm F a c false) (tm F b d false),gaussA u v (tm F b c false) (tm F a d true),DyA w (sqD F c d)]):=by
 rw [Zab G T J.J.ZjD]
 obtain ⟨z,h1⟩:=Zca J F (minus:=false) ha hc fa fc
 obtain ⟨y,h2⟩:=Zca J F (minus:=false) hb hd fb fd
 obtain ⟨u,h3⟩:=Zca J F (minus:=false) hb hc fb fc
 obtain ⟨v,h4⟩:=Zca J F (minus:=true) ha hd fa fd
 obtain ⟨z1,v1⟩:=ZaX J F (ZaP hc) fc
 obtain ⟨z2,v2⟩:=ZaX J F (ZaP hd) fd
 rw [← Zdx fc] at v1
 rw [← Zdx fd] at v2
 obtain ⟨z3,m1⟩:=Zvy J (z:=z1) (y:=z1) ((ZbO F c).mono (by decide)) ((ZbO F c).mono (by decide))
 obtain ⟨z4,m2⟩:=Zvy J (z:=z2) (y:=z2) ((ZbO F d).mono (by decide)) ((ZbO F d).mono (by decide))
 obtain ⟨z5,q1⟩:=Zef J (z:=z3) (y:=z4) (a:=mulD (F.vl c) (F.vl c)) (b:=mulD (F.vl d) (F.vl d)) ((ZeQ F c c).mono (by decide)) ((ZeQ F d d).mono (by decide))
 rw [show addD (mulD (F.vl c) (F.vl c)) (mulD (F.vl d) (F.vl d)) = sqD F c d from rfl] at q1
 refine ⟨z,y,u,v,z5,?_⟩
 generalize sqD F c d = q at *
 generalize mulD (F.vl c) (F.vl c) = cc at *
 generalize mulD (F.vl d) (F.vl d) = dd at *
 generalize F.vl c = vc at *
 generalize F.vl d = vd at *
 generalize tm F a c false = t1 at *
 generalize tm F b d false = t2 at *
 generalize tm F b c false = t3 at *
 generalize tm F a d true = t4 at *
 simp only [zA,gaussA,numA,DyA,A3] at *
 repeat' (first | simp only [seval,exC,Zej,h1,h2,h3,h4,v1,v2,m1,m2,q1] | simp (disch:=omega) only [dxB])
theorem ZDE (F : CallF) (d : Option Nat) (os : List IOper) (e : Env) (h : Heap) (n : Nat) (zero : List AV) (ps : List (Nat × Nat × IOpd)) : evOps G F (⟨d,.bslice n 4 zero ps,none⟩ :: os) e h =
  kBs G F (fillA (repA n zero) (ps.map fun (o,n,x) => (o,n,opd e x))) (.own h.b.length 0 n 4) d os e h:=Zhb G F d os e h n 4 zero ps
theorem ZDm (b : Nat) (k : IntKind) : iaddrAV 2 4 (.ptr b 0) (.int k 0) = some (.ptr b 0):=rfl
theorem ZDn (b : Nat) (k : IntKind) : iaddrAV 2 4 (.ptr b 0) (.int k 1) = some (.ptr b 4):=rfl
set_option maxHeartbeats 16000000 in
theorem Zrd (J : Al G T g) (F : Fm) {md : Int} (hm : 1≤md∧md≤5) {a b c d : Nat} (ha : a < 2 * F.sg) (hb : b < 2 * F.sg) (hc : c < 2 * F.sg) (hd : d < 2 * F.sg) :
  run G T 256 [.int .u8 F.u,.int .u8 md,zA a b,zA c d] = some (zrA (mulZ F md a b c d).1 (mulZ F md a b c d).2):=by
 rw [Zab G T J.J.Zrd]
 have s1:=Zra J F hm ha hb hc hd
 unfold mulZ
 by_cases hs : smS F a b c d = true
 ·rw [if_pos hs]
  rw [hs] at s1
  generalize smW F md a b c d = S at *
  simp only [zA,zrA] at *
  repeat' (first | simp only [seval,exC,Zim,s1] | simp (disch:=omega) only [dxB])
 ·rw [if_neg hs]
  have hz : (zcl (F.cls a) (F.cls b)≤2∧zcl (F.cls c) (F.cls d)≤2):=by
   unfold smS at hs
   simpa using hs
  obtain ⟨fa,fb⟩:=(Zer F).2 hz.1
  obtain ⟨fc,fd⟩:=(Zer F).2 hz.2
  rw [Bool.not_eq_true] at hs
  rw [hs] at s1
  obtain ⟨z,y,u,v,p1⟩:=Zlh J F ha hb hc hd fa fb fc fd
  obtain ⟨zo,i1⟩:=ZxQ J
  have b1:=Zrv F a c false
  have b2:=Zrv F b d true
  have b3:=Zrv F a d false
  have b4:=Zrv F b c false
  obtain ⟨w1,q1⟩:=ZmI J (md:=md) (z:=z) (y:=y) (b1.1.mono (by decide)) (b2.1.mono (by decide))
  obtain ⟨w2,q2⟩:=ZmI J (md:=md) (z:=u) (y:=v) (b3.1.mono (by decide)) (b4.1.mono (by decide))
  have r1:=ZdR J F hm (z:=w1) (y:=zo) (s:=zsg md (tm F a c false) (tm F b d true)) ((ZhT b1.1 b2.1).mono (by decide)) (Zyb (K:=65537) (by decide)) (by decide)
  have r2:=ZdR J F hm (z:=w2) (y:=zo) (s:=zsg md (tm F a d false) (tm F b c false)) ((ZhT b3.1 b4.1).mono (by decide)) (Zyb (K:=65537) (by decide)) (by decide)
  rw [show ptQ F md (addD (tm F a c false).1 (tm F b d true).1) (zsg md (tm F a c false) (tm F b d true)) oneD = (mulR F md a b c d).1 from rfl] at r1
  rw [show ptQ F md (addD (tm F a d false).1 (tm F b c false).1) (zsg md (tm F a d false) (tm F b c false)) oneD = (mulR F md a b c d).2 from rfl] at r2
  clear b1 b2 b3 b4 hz
  generalize mulR F md a b c d = R at *
  generalize smW F md a b c d = S at *
  generalize zsg md (tm F a c false) (tm F b d true) = g1 at *
  generalize zsg md (tm F a d false) (tm F b c false) = g2 at *
  generalize addD (tm F a c false).1 (tm F b d true).1 = X at *
  generalize addD (tm F a d false).1 (tm F b c false).1 = Y at *
  generalize tm F a c false = t1 at *
  generalize tm F b d true = t2 at *
  generalize tm F a d false = t3 at *
  generalize tm F b c false = t4 at *
  generalize oneD = one at *
  simp only [zA,zrA,gaussA,cellsN,List.cons_append,List.nil_append,DyA,A3] at *
  repeat' (first | simp only [seval,exC,Zim,ZDE,ZbI,ZDm,ZDn,s1,p1,i1,q1,q2,r1,r2] | simp (disch:=omega) only [dxB])
end Go.Cv
