/-
 A part of the proof of the statements of this seat (texts that the law's own text leans on): no condition.
-/
import Derived.Test.YtddmoldiopnifaaGreatDoorM15
import Derived.Test.YtddmoldiopnifaaGreatDoorM7
import Derived.Test.YtddmoldiopnifaaGreatDoorM14
set_option linter.unusedVariables false
set_option linter.unusedSimpArgs false
namespace Go.Cv
variable {G : Nat→Option (List AV)} {T : Tbl} {g : Nat}
theorem Zqg (n : Nat) : intD (n : Int) = mkD false n 0:=by
 unfold intD; rw [decide_eq_false (by omega),Int.natAbs_natCast]
theorem Zvl {n : Nat} (h : n≤41) (h0 : n≠0) : tz n≤5:=by
 have hs:=(Zdd h0).1
 rcases Nat.lt_or_ge 5 (tz n) with q | q
 ·exfalso
  have h2 : 2 ^ 6≤2 ^ tz n:=Nat.pow_le_pow_right (by decide) q
  have h3 : n / 2 ^ tz n≠0:=fun q0 => by rw [q0,Nat.zero_mul] at hs; exact h0 hs
  have h4 : 1 * 2 ^ tz n≤n / 2 ^ tz n * 2 ^ tz n:=Nat.mul_le_mul_right _ (Nat.pos_of_ne_zero h3)
  rw [Nat.one_mul] at h4
  have h5 : 2 ^ 6≤n:=Nat.le_trans (Nat.le_trans h2 h4) (Nat.le_of_eq hs.symm)
  omega
 ·exact q
theorem ZEf {n : Nat} (h : n≤41) : Bd (intD (n : Int)) 6:=by
 rw [Zqg]
 have hb : blen n≤6:=Zae.2 (by rw [show (2 : Nat) ^ 6 = 64 from rfl]; omega)
 by_cases h0 : n = 0
 ·subst h0
  exact ⟨by decide,by decide,by decide⟩
 ·have ht:=Zvl h h0
  rw [Zaj h0]
  exact ⟨Nat.le_trans (ZaE (Nat.div_le_self _ _)) hb,by simp only; omega,by simp only; omega⟩
theorem ZpQ (J : Al G T g) {n : Nat} (h : n≤41) : ∃ z,run G T 272 [.int .i64 (n : Int)] = some (DyA z (intD (n : Int))):=by
 rw [Zab G T J.J.ZpQ,Zqg]
 obtain ⟨z1,r1⟩:=Zoo J (n:=n) (by omega)
 have hb : blen n≤6:=Zae.2 (by rw [show (2 : Nat) ^ 6 = 64 from rfl]; omega)
 have ht : n = 0∨(-16777216≤(0 : Int) + tz n∧(0 : Int) + tz n≤16777216):=by
  by_cases h0 : n = 0
  ·exact Or.inl h0
  ·have:=Zvl h h0
   right; omega
 obtain ⟨z2,r2⟩:=ZbT J (n:=false) (z:=z1) (a:=n) (e:=0) (Zas (by omega)) ht (by omega)
 refine ⟨z2,?_⟩
 have w1 : (n : Int) % 18446744073709551616 = (n : Int):=by omega
 have w0 : ¬ (n : Int) < 0:=by omega
 generalize mkD false n 0 = d at *
 generalize dl n = l at *
 generalize (n : Int) = m at *
 simp only [DyA,A3] at *
 repeat' (first|simp (maxSteps:=9^7) only [seval,exC,ZhT,w1,w0,r1,r2]|simp (maxSteps:=9^7) (disch:=first|with_reducible assumption|omega) only [dxB]|(simp only [kdB];split)|(simp only [kvB];split))
theorem ZBj {k n i : Nat} (h : i < n) : iaddrV 2 (.own k 0 n 2) (.int .i64 (i : Int)) = some (.ptr k (i * 2)):=by
 rw [iaddrV,if_pos ⟨by omega,by omega,rfl⟩,Int.toNat_natCast,Nat.zero_add]
theorem ZBO {bs : List Blk} {f : List Nat} {k i : Nat} {l : List (Nat × Nat)} {w : List AV} (h : i < l.length) (hb : bs[k]? = some ⟨zcells l ++ w,false⟩) : rdAt G (Heap.mem ⟨bs,f⟩) 2 (.ptr k (i * 2)) = some [.int .u64 ((zc l i).1 : Int),.int .u64 ((zc l i).2 : Int)]:=by
 rw [rdAt,Zot,hb,ZoN,sub,if_pos (by rw [List.length_append,ZkT]; omega),ZsY h]
def kTr (o : Option (Env × Heap)) : Option (Ex × Env × Heap):=o.map fun r => (.norm,r.1,r.2)
theorem Zuc (e : Env) (h : Heap) : kTr (some (e,h)) = some (.norm,e,h):=rfl
theorem ZBU (ops : List IOper) (t : OT) (l : List Nat) (e : Env) (h : Heap) : evL G T (.tree ops t l) e h = kTr (evT G (CF G T) ops (finT l) t e h):=ZzI G T ops t l e h
noncomputable def kTi (F : CallF) (ops : List IOper) (fin : Env→Heap→Option (Env × Heap)) (t : OT) (o : Option IOper) (e : Env) (h : Heap) : Option (Env × Heap):=match o with
 | some o => (evOps G F [o] e h).bind fun r => evT G F ops fin t r.1 r.2
 | none => none
noncomputable def kT (F : CallF) (ops : List IOper) (fin : Env→Heap→Option (Env × Heap)) (t : OT) (o : Option (Env × Heap)) : Option (Env × Heap):=o.bind fun r => evT G F ops fin t r.1 r.2
theorem ZAY (F : CallF) (ops : List IOper) (fin : Env→Heap→Option (Env × Heap)) (i : Nat) (t : OT) (e : Env) (h : Heap) : evT G F ops fin (.op i t) e h = kTi (G:=G) F ops fin t ops[i]? e h:=by
 simp only [evT,kTi]
 cases ops[i]? <;> rfl
theorem Zub (F : CallF) (ops : List IOper) (fin : Env→Heap→Option (Env × Heap)) (t : OT) (o : IOper) (e : Env) (h : Heap) : kTi (G:=G) F ops fin t (some o) e h = kT (G:=G) F ops fin t (evOps G F [o] e h):=rfl
theorem ZxG (F : CallF) (ops : List IOper) (fin : Env→Heap→Option (Env × Heap)) (t : OT) (e : Env) (h : Heap) : kT (G:=G) F ops fin t (some (e,h)) = evT G F ops fin t e h:=rfl
theorem Zxk (F : CallF) (ops : List IOper) (fin : Env→Heap→Option (Env × Heap)) (a b : OT) (e : Env) (h : Heap) : evT G F ops fin (.alt a b) e h = bothO (evT G F ops fin a e h) (evT G F ops fin b e h):=rfl
theorem ZtI (F : CallF) (ops : List IOper) (l : List Nat) (e : Env) (h : Heap) : evT G F ops (finT l) .done e h = some (keepE l e,h):=rfl
theorem Zpd {α : Type} (x : α) : bothO (some x) (some x) = some x:=by simp [bothO]
theorem ZzQ (k : IntKind) (n : Int) (bs : List Nat) : fz1 (.int k n) bs = []:=rfl
theorem ZzP (b : Bool) (bs : List Nat) : fz1 (.bool b) bs = []:=rfl
def fk : Fm→FloatKind
 | .s => .f32
 | .d => .f64
theorem ie_f (F : Fm) : (fk F).format.fractionBits = F.fr∧(fk F).format.leastPlace = F.low∧(fk F).format.binade = 2 ^ F.fr∧(fk F).format.infRung = F.i0∧(fk F).format.signWeight = F.sg:=by cases F <;> decide
theorem ZsX (F : Fm) (n : Bool) (r : Nat) : (fk F).format.word n r = r + F.sgn n:=by
 unfold Ieee.Format.word Fm.sgn
 rw [(ie_f F).2.2.2.2]
 cases n <;> simp <;> omega
def flW (F : Fm) (r : Nat) : AV:=if F.cls r = 5 then .nan (fk F) else .fl (fk F) r
theorem Zzw (neg : Bool) (n : Nat) {k : Nat} (hk : 0 < k) : Ieee.Toward.even.cut neg n k = (rdN 1 neg n false k).1:=by
 obtain ⟨i,rfl⟩ : ∃ i,k = i + 1:=⟨k - 1,by omega⟩
 unfold Ieee.Toward.cut rdN
 simp only [Nat.one_shiftLeft]
 have hlt : n < 2 ^ (n.log2 + 1):=Nat.lt_log2_self
 by_cases hc : i + 1≤n.log2 + 2
 ·rw [Nat.min_eq_left hc]
  congr 1
  have hp:=Nat.two_pow_pos i
  have e1 : n % 2 ^ (i + 1) = n % 2 ^ i + 2 ^ i * (n / 2 ^ i % 2):=by rw [Nat.pow_succ,Nat.mod_mul]
  have e2 : 2 ^ (i + 1) = 2 ^ i * 2:=Nat.pow_succ ..
  have h2 : n / 2 ^ i % 2 < 2:=Nat.mod_lt _ (by decide)
  have h3 : n % 2 ^ i < 2 ^ i:=Nat.mod_lt _ hp
  unfold upB halfN moreN
  rw [if_pos rfl,Nat.add_sub_cancel,e1,e2]
  congr 1
  generalize n / (2 ^ i * 2) = q
  generalize n / 2 ^ i % 2 = h at *
  generalize n % 2 ^ i = r at *
  generalize 2 ^ i = p at *
  rcases (show h = 0∨h = 1 by omega) with rfl | rfl
  ·have g1 : ¬ p * 2 < 2 * (r + p * 0):=by omega
   have g2 : ¬ p * 2 = 2 * (r + p * 0):=by omega
   simp [g1,g2]
   omega
  ·by_cases hr : r = 0
   ·subst hr
    have g1 : ¬ p * 2 < 2 * (0 + p * 1):=by omega
    have g2 : p * 2 = 2 * (0 + p * 1):=by omega
    have g3 : 2 * p = p * 2:=by omega
    have g4 : ¬ p * 2 < 2 * p:=by omega
    by_cases hq : q % 2 = 1 <;> simp [hq,g3]
   ·have g1 : p * 2 < 2 * (r + p * 1):=by omega
    have g3 : p * 2 < 2 * (r + p):=by omega
    simp [g3,hr]
 ·rw [Nat.min_eq_right (by omega)]
  have e1 : 2 ^ (n.log2 + 2) = 2 ^ (n.log2 + 1) * 2:=Nat.pow_succ ..
  have hb : n < 2 ^ i:=Nat.lt_of_lt_of_le hlt (Nat.pow_le_pow_right (by decide) (by omega))
  have hb2 : n < 2 ^ (i + 1):=Nat.lt_trans hb (Nat.pow_lt_pow_right (by decide) (by omega))
  rw [Nat.div_eq_of_lt (show n < 2 ^ (n.log2 + 2) by omega),Nat.mod_eq_of_lt (show n < 2 ^ (n.log2 + 2) by omega),Nat.div_eq_of_lt hb2]
  unfold upB halfN
  rw [if_pos rfl,Nat.add_sub_cancel,Nat.div_eq_of_lt hb]
  have g1 : ¬ 2 ^ (n.log2 + 2) < 2 * n:=by omega
  have g2 : ¬ 2 ^ (n.log2 + 2) = 2 * n:=by omega
  simp [g1,g2]
theorem ZsD (F : Fm) (neg : Bool) {m : Nat} (h0 : m≠0) (e : Int) : (fk F).format.nearest neg m e = (rndW F 1 (mkD neg m e)).1:=by
 obtain ⟨f1,f2,f3,f4,f5⟩:=ie_f F
 have hd : (mkD neg m e).m≠0:=fun q => by
  have:=Zoj (n:=neg) h0 (Int.le_refl e)
  rw [q,Nat.zero_mul] at this
  have:=Nat.mul_pos (Nat.pos_of_ne_zero h0) (Nat.two_pow_pos (e - e).toNat)
  omega
 have hn : (mkD neg m e).n = neg:=ZzY h0 e
 have htop : (mkD neg m e).e + (blen (mkD neg m e).m : Int) = e + blen m:=by
  rw [Zaj h0]
  simp only
  have h1:=(Zdd h0).1
  have h2 : m / 2 ^ tz m≠0:=fun q => by rw [q,Nat.zero_mul] at h1; exact h0 h1
  have h3:=Zaq h2 (tz m)
  rw [← h1] at h3
  omega
 unfold Ieee.Format.nearest
 rw [if_neg h0,f1,f2,f3,f4,ZsX]
 have hlast : max (e + (m.log2 : Int) - (F.fr : Int)) F.low = F.eOf (e + blen m):=by
  unfold Fm.eOf blen
  rw [if_neg h0]
  congr 1
  push_cast
  omega
 rw [hlast,Zyw F 1 hd,hn,Zqv F hd,hn,htop]
 have hr : rnd 1 neg (mkD neg m e).m (mkD neg m e).e (F.eOf (e + blen m)) = rnd 1 neg m e (F.eOf (e + blen m)):=by
  have hle : e≤(mkD neg m e).e:=by rw [Zaj h0]; simp only; omega
  rw [Zyx 1 neg (mkD neg m e).m (L:=min e (F.eOf (e + blen m) - 1)) (by omega) (by omega),Zyx 1 neg m (L:=min e (F.eOf (e + blen m) - 1)) (by omega) (by omega),Zoj h0 (by omega)]
 rw [hr]
 have hk : Ieee.Toward.even.cut neg (m <<< (e - F.eOf (e + blen m)).toNat) (F.eOf (e + blen m) - e).toNat = (rnd 1 neg m e (F.eOf (e + blen m))).1:=by
  generalize F.eOf (e + blen m) = u
  unfold rnd
  by_cases hu : u≤e
  ·rw [if_pos hu,show (u - e).toNat = 0 by omega,Nat.shiftLeft_eq]
   unfold Ieee.Toward.cut
   simp [Nat.mod_one]
  ·rw [if_neg hu,show (e - u).toNat = 0 by omega,Nat.shiftLeft_zero]
   exact Zzw neg m (by omega)
 rw [hk]
 have ho : ovs F 1 neg = F.i0:=by unfold ovs; simp
 rw [ho]
 unfold Fm.enc
 split
 ·rw [Nat.min_eq_right (by assumption)]
 ·rw [Nat.min_eq_left (by omega)]
theorem not5 (F : Fm) {s : Nat} (n : Bool) (h : s≤F.i0) : F.cls (s + F.sgn n)≠5:=by
 have hi:=Zdb F
 have hm:=(Zdc (F:=F) (s:=s) n (by omega)).1
 have h2 : F.i0 = F.most * 2 ^ F.fr:=rfl
 have hp:=Nat.two_pow_pos F.fr
 unfold Fm.cls Fm.ex Fm.fc
 rw [hm]
 intro hc
 by_cases h0 : s / 2 ^ F.fr = 0
 ·rw [if_pos h0] at hc
  split at hc <;> revert hc <;> decide
 ·rw [if_neg h0] at hc
  by_cases h1 : s / 2 ^ F.fr < F.most
  ·rw [if_pos h1] at hc; exact absurd hc (by decide)
  ·rw [if_neg h1] at hc
   have e:=Nat.div_add_mod s (2 ^ F.fr)
   have h3 : F.most * 2 ^ F.fr≤s / 2 ^ F.fr * 2 ^ F.fr:=Nat.mul_le_mul_right _ (by omega)
   rw [Nat.mul_comm (2 ^ F.fr)] at e
   have h4 : s % 2 ^ F.fr = 0:=by omega
   rw [if_pos h4] at hc; exact absurd hc (by decide)
theorem rnd5 (F : Fm) {m : Int} (m1 : 1≤m) (m2 : m≤5) (d : Dy) : F.cls (rndW F m d).1≠5:=by
 obtain ⟨s,n,h1,h2,_⟩:=Zqw F m1 m2 d
 rw [h1]; exact not5 F n h2
theorem sum5 (F : Fm) {m : Int} (m1 : 1≤m) (m2 : m≤5) (d : Dy) : F.cls (sumW F m d).1≠5:=by
 unfold sumW
 split
 ·rw [(ZeA F _).2.2.1]; decide
 ·exact rnd5 F m1 m2 d
theorem nan5 (F : Fm) : F.cls F.nan = 5:=by cases F <;> decide
theorem Zcp (F : Fm) : flW F F.nan = .nan (fk F):=by unfold flW; rw [if_pos (nan5 F)]
theorem Zev {F : Fm} {r : Nat} (h : F.cls r≠5) : flW F r = .fl (fk F) r:=if_neg h
theorem ZGn (F : Fm) {w : Nat} (hw : w < 2 * F.sg) : (w / (fk F).format.signWeight % 2 == 1) = F.ng w:=by
 rw [(ie_f F).2.2.2.2]
 have hi:=Zdb F
 unfold Fm.ng
 by_cases h : F.sg≤w
 ·have : w / F.sg = 1:=Nat.div_eq_of_lt_le (by omega) (by omega)
  rw [this,decide_eq_true h]; rfl
 ·rw [Nat.div_eq_of_lt (by omega),decide_eq_false h]; rfl
theorem ZuC (F : Fm) {w : Nat} (hw : w < 2 * F.sg) (hf : F.fin w) : ∃ m p,(fk F).format.read w = .number (F.ng w) m p∧F.vl w = mkD (F.ng w) m p:=by
 obtain ⟨f1,f2,f3,f4,f5⟩:=ie_f F
 have hp:=Nat.two_pow_pos F.fr
 have h2 : F.i0 = F.most * 2 ^ F.fr:=rfl
 have hi:=(ZGL F hw (by have:=Zap.1 hf; omega)).2.1 hf
 have hs:=ZGn F hw
 unfold Ieee.Format.read
 simp only [hs]
 rw [f5,f3,f4,f2]
 rw [Zbu hf]
 unfold Fm.val Fm.ex Fm.fc
 by_cases h0 : w % F.sg < 2 ^ F.fr
 ·rw [if_pos h0,if_pos (Nat.div_eq_of_lt h0),Nat.mod_eq_of_lt h0]
  exact ⟨_,_,rfl,rfl⟩
 ·have h1 : 1≤w % F.sg / 2 ^ F.fr:=(Nat.le_div_iff_mul_le hp).2 (by omega)
  rw [if_neg h0,if_pos hi,if_neg (by omega)]
  refine ⟨_,_,rfl,?_⟩
  congr 1
  omega
theorem ZuD (F : Fm) {w : Nat} (hw : w < 2 * F.sg) (h : F.cls w = 4) : (fk F).format.read w = .infinity (F.ng w):=by
 obtain ⟨f1,f2,f3,f4,f5⟩:=ie_f F
 have hi:=Zdb F
 have hs:=ZGn F hw
 have hp:=Nat.two_pow_pos F.fr
 have he:=ZlC hw h
 have hm : w % F.sg = F.i0:=by
  have h0 : ∀ b,F.inf b = F.i0 + F.sgn b:=by intro b; cases F <;> cases b <;> decide
  have:=h0 (F.ng w)
  have h2:=(Zdc (F:=F) (s:=F.i0) (F.ng w) (by omega)).1
  rw [← this,← he] at h2
  exact h2
 have hb : 2 ^ F.fr≤F.i0:=by cases F <;> decide
 unfold Ieee.Format.read
 simp only [hs]
 rw [f5,f3,f4,hm,if_neg (by omega),if_neg (by omega),if_pos rfl]
theorem Zrz (F : Fm) {w : Nat} (hw : w < 2 * F.sg) (h : F.cls w = 5) : ∃ n t,(fk F).format.read w = .nan n t:=by
 obtain ⟨f1,f2,f3,f4,f5⟩:=ie_f F
 have hi:=Zdb F
 have hp:=Nat.two_pow_pos F.fr
 have hb : 2 ^ F.fr≤F.i0:=by cases F <;> decide
 have h2 : F.i0 = F.most * 2 ^ F.fr:=rfl
 have hm : F.i0 < w % F.sg:=by
  rcases Nat.lt_or_ge F.i0 (w % F.sg) with q | q
  ·exact q
  ·have:=not5 F (F.ng w) q
   rw [← ZGe F hw] at this
   exact absurd h this
 unfold Ieee.Format.read
 simp only
 rw [f5,f3,f4,if_neg (by omega),if_neg (by omega),if_neg (by omega)]
 exact ⟨_,_,rfl⟩
theorem cls3 (F : Fm) (w : Nat) : F.cls w = 5∨F.cls w = 4∨F.fin w:=by
 have:=Zdm F w
 rw [Zap]; omega
theorem Zmx (F : Fm) (n : Bool) (m : Nat) (e : Int) : (fk F).format.write (.number n m e) = if m = 0 then F.sgn n else (rndW F 1 (mkD n m e)).1:=by
 show (fk F).format.nearest n m e = _
 by_cases h : m = 0
 ·rw [if_pos h,h]
  unfold Ieee.Format.nearest
  rw [if_pos rfl,ZsX,Nat.zero_add]
 ·rw [if_neg h]; exact ZsD F n h e
theorem ZfF (F : Fm) (n : Bool) : (fk F).format.write (.infinity n) = F.inf n:=by
 show (fk F).format.word n (fk F).format.infRung = _
 rw [ZsX,(ie_f F).2.2.2.1]
 cases F <;> cases n <;> decide
theorem ZrL (n : Bool) (m : Nat) (e L : Int) (h : L≤e) : Ieee.signed n m (e - L).toNat = iv (mkD n m e) L:=by
 rw [ZhN h]
 unfold Ieee.signed
 rw [Nat.shiftLeft_eq]
 cases n <;> simp
theorem inf5 (F : Fm) (n : Bool) : F.cls (F.inf n)≠5:=by rw [ZpO]; decide
theorem sgn5 (F : Fm) (n : Bool) : F.cls (F.sgn n)≠5:=by rw [(ZeA F n).2.2.1]; decide
theorem ZDX (F : Fm) (s t : Bool) (m n : Nat) (i j : Int) : ∃ q,(Ieee.Datum.sum (.number s m i) (.number t n j)).map (fk F).format.write = some q ∧
  ((iv (mkD s m i) (min i j) + iv (mkD t n j) (min i j) = 0∧q = F.sgn (s && t))∨(iv (mkD s m i) (min i j) + iv (mkD t n j) (min i j)≠0∧q = (rndW F 1 (addD (mkD s m i) (mkD t n j))).1)):=by
 have e1:=ZrL s m i (min i j) (by omega)
 have e2:=ZrL t n j (min i j) (by omega)
 refine ⟨_,rfl,?_⟩
 rw [Zmx,e1,e2]
 obtain ⟨a1,a2⟩:=Zdn (a:=mkD s m i) (b:=mkD t n j) (L:=min i j) (ZcY (by omega)) (ZcY (by omega))
 generalize iv (mkD s m i) (min i j) = x at *
 generalize iv (mkD t n j) (min i j) = y at *
 by_cases h0 : x + y = 0
 ·left
  rw [h0]
  simp
 ·right
  refine ⟨h0,?_⟩
  rw [if_neg (by omega),if_neg h0]
  congr 2
  refine Zrv (L:=min i j) (Zlt _ _ _) (ZgM (Zlt _ _ _) (Zlt _ _ _)) (ZcY (Int.le_refl _)) a2 ?_
  rw [ZhN (Int.le_refl _),a1,Int.sub_self,show ((0 : Int)).toNat = 0 from rfl,Nat.pow_zero,Nat.mul_one]
  by_cases hx : x + y < 0
  ·rw [decide_eq_true hx]; simp; omega
  ·rw [decide_eq_false hx]; simp; omega
theorem Zjw {F : Fm} {w : Nat} (h : F.fin w) : F.cls w≠5∧F.cls w≠4:=by have:=Zap.1 h; omega
theorem ZoX {n : Bool} {m : Nat} {e : Int} : (mkD n m e).m = 0↔m = 0:=by
 by_cases h : m = 0
 ·subst h; rw [ZbQ]
 ·constructor
  ·intro q
   have:=Zoj (n:=n) h (Int.le_refl e)
   rw [q,Nat.zero_mul] at this
   have:=Nat.mul_pos (Nat.pos_of_ne_zero h) (Nat.two_pow_pos (e - e).toNat)
   omega
  ·intro q; exact absurd q h
theorem ZyV (F : Fm) {a b : Nat} (ha : a < 2 * F.sg) (hb : b < 2 * F.sg) (t : Bool) (db : Dy) (D : Ieee.Datum)
  (hD : (F.cls b = 5∧∃ n f,D = .nan n f)∨(F.cls b = 4∧D = .infinity t)∨(F.fin b∧∃ n j,D = .number t n j∧db = mkD t n j∧(F.cls b = 1↔n = 0))) :
  flR (fk F) ((((fk F).format.read a).sum D).map (fk F).format.write) = flW F (addP F 1 (F.cls a) (F.ng a) (F.vl a) (F.cls b) t db).1:=by
 unfold addP
 rcases cls3 F a with ca | ca | ca
 ·obtain ⟨n,f,e⟩:=Zrz F ha ca
  rw [e,if_pos (Or.inl ca),Zcp]; rfl
 ·rw [ZuD F ha ca]
  rcases hD with ⟨cb,n,f,rfl⟩ | ⟨cb,rfl⟩ | ⟨cb,n,j,rfl,_⟩
  ·rw [if_pos (Or.inr cb),Zcp]; rfl
  ·rw [if_neg (by omega)]
   by_cases h : F.ng a = t
   ·rw [if_neg (fun q => q.2.2 h),if_pos ca,Zev (inf5 F _),h]
    simp [Ieee.Datum.sum,ZfF,flR]
   ·rw [if_pos ⟨ca,cb,h⟩,Zcp]
    simp [Ieee.Datum.sum,h,flR]
  ·have:=Zjw cb
   rw [if_neg (by omega),if_neg (fun q => this.2 q.2.1),if_pos ca,Zev (inf5 F _)]
   simp [Ieee.Datum.sum,ZfF,flR]
 ·obtain ⟨m,i,e,ev⟩:=ZuC F ha ca
  have fa:=Zjw ca
  rw [e]
  rcases hD with ⟨cb,n,f,rfl⟩ | ⟨cb,rfl⟩ | ⟨cb,n,j,rfl,rfl,z2⟩
  ·rw [if_pos (Or.inr cb),Zcp]; rfl
  ·rw [if_neg (by omega),if_neg (fun q => fa.2 q.1),if_neg fa.2,if_pos cb,Zev (inf5 F _)]
   simp [Ieee.Datum.sum,ZfF,flR]
  ·have fb:=Zjw cb
   rw [if_neg (by omega),if_neg (fun q => fa.2 q.1),if_neg fa.2,if_neg fb.2]
   obtain ⟨q,hq,hc⟩:=ZDX F (F.ng a) t m n i j
   rw [hq,ev]
   have la : LoE (mkD (F.ng a) m i) (min i j):=ZcY (by omega)
   have lb : LoE (mkD t n j) (min i j):=ZcY (by omega)
   obtain ⟨a1,a2⟩:=Zdn la lb
   have z1 : (F.cls a = 1)↔m = 0:=by rw [Zjb ha ca,ev,ZoX]
   have x0 : m = 0→iv (mkD (F.ng a) m i) (min i j) = 0:=fun q => ZaO (ZoX.2 q) _
   have y0 : n = 0→iv (mkD t n j) (min i j) = 0:=fun q => ZaO (ZoX.2 q) _
   have nz : ∀ {d : Dy} {L : Int},d.m≠0→iv d L≠0:=fun {d L} h q => by
    have hp:=Nat.mul_pos (Nat.pos_of_ne_zero h) (Nat.two_pow_pos (d.e - L).toNat)
    rcases Zqh d L with ⟨r,_⟩ | ⟨r,_⟩ <;> rw [r] at q <;> omega
   have sx : F.ng a = true→iv (mkD (F.ng a) m i) (min i j)≤0:=fun q => by
    rw [ZhN (by omega),q]; simp only [if_true,Int.neg_mul,Int.one_mul]; omega
   have sy : t = true→iv (mkD t n j) (min i j)≤0:=fun q => by
    rw [ZhN (by omega),q]; simp only [if_true,Int.neg_mul,Int.one_mul]; omega
   by_cases hz : F.cls a = 1∧F.cls b = 1∧F.ng a = t
   ·rw [if_pos hz,Zev (sgn5 F _)]
    rcases hc with ⟨_,hq'⟩ | ⟨h1,_⟩
    ·rw [hq',hz.2.2]; simp [flR]
    ·exact absurd (by rw [x0 (z1.1 hz.1),y0 (z2.1 hz.2.1)]; rfl) h1
   ·rw [if_neg hz,Zev (sum5 F (by decide) (by decide) _)]
    unfold sumW
    rcases hc with ⟨h0,hq'⟩ | ⟨h1,hq'⟩
    ·have hm : (addD (mkD (F.ng a) m i) (mkD t n j)).m = 0:=Classical.byContradiction fun q => nz q (by rw [a1]; exact h0)
     rw [if_pos hm,hq']
     have : (F.ng a && t) = false:=by
      cases hs : F.ng a with
      | false => rfl
      | true =>
       cases ht : t with
       | false => rfl
       | true =>
        exfalso
        have h1:=sx hs
        have h2:=sy ht
        have hx : m = 0:=Classical.byContradiction fun q => nz (fun r => q (ZoX.1 r)) (show iv (mkD (F.ng a) m i) (min i j) = 0 by omega)
        have hy : n = 0:=Classical.byContradiction fun q => nz (fun r => q (ZoX.1 r)) (show iv (mkD t n j) (min i j) = 0 by omega)
        exact hz ⟨z1.2 hx,z2.2 hy,by rw [hs,ht]⟩
     rw [this]
     simp [flR]
    ·have hm : (addD (mkD (F.ng a) m i) (mkD t n j)).m≠0:=fun q => h1 (by rw [← a1,ZaO q])
     rw [if_neg hm,hq']
     simp [flR]
theorem Zpg (F : Fm) {b : Nat} (hb : b < 2 * F.sg) : (F.cls b = 5∧∃ n f,(fk F).format.read b = .nan n f)∨(F.cls b = 4∧(fk F).format.read b = .infinity (F.ng b))∨(F.fin b∧∃ n j,(fk F).format.read b = .number (F.ng b) n j∧F.vl b = mkD (F.ng b) n j∧(F.cls b = 1↔n = 0)):=by
 rcases cls3 F b with c | c | c
 ·exact .inl ⟨c,Zrz F hb c⟩
 ·exact .inr (.inl ⟨c,ZuD F hb c⟩)
 ·obtain ⟨n,j,e,ev⟩:=ZuC F hb c
  exact .inr (.inr ⟨c,n,j,e,ev,by rw [Zjb hb c,ev,ZoX]⟩)
theorem ZEt (F : Fm) {a b : Nat} (ha : a < 2 * F.sg) (hb : b < 2 * F.sg) : flR (fk F) ((fk F).format.add a b) = flW F (addW F 1 a b).1 :=
 ZyV F ha hb (F.ng b) (F.vl b) _ (Zpg F hb)
theorem ZFS (n : Bool) (m : Nat) (e : Int) : negD (mkD n m e) = mkD (!n) m e:=by
 by_cases h : m = 0
 ·subst h; rw [ZbQ,ZbQ]; rfl
 ·unfold negD
  rw [if_neg (fun r => h (ZoX.1 r)),Zaj h,Zaj h]
theorem ZGC (F : Fm) {a b : Nat} (ha : a < 2 * F.sg) (hb : b < 2 * F.sg) : flR (fk F) ((fk F).format.sub a b) = flW F (subW F 1 a b).1:=by
 refine ZyV F ha hb (!F.ng b) (negD (F.vl b)) _ ?_
 rcases Zpg F hb with ⟨c,n,f,e⟩ | ⟨c,e⟩ | ⟨c,n,j,e,ev,z⟩
 ·rw [e]; exact .inl ⟨c,_,_,rfl⟩
 ·rw [e]; exact .inr (.inl ⟨c,rfl⟩)
 ·rw [e,ev,ZFS]; exact .inr (.inr ⟨c,n,j,rfl,rfl,z⟩)
theorem ZFP (F : Fm) {a b : Nat} (ha : a < 2 * F.sg) (hb : b < 2 * F.sg) : flR (fk F) ((fk F).format.mul a b) = flW F (mulW2 F 1 a b).1:=by
 show flR (fk F) ((((fk F).format.read a).product ((fk F).format.read b)).map (fk F).format.write) = _
 unfold mulW2 mulP
 rcases Zpg F ha with ⟨ca,n,f,e⟩ | ⟨ca,e⟩ | ⟨ca,m,i,e,ev,z1⟩ <;> rcases Zpg F hb with ⟨cb,n',f',e'⟩ | ⟨cb,e'⟩ | ⟨cb,m',i',e',ev',z2⟩ <;> rw [e,e']
 ·rw [if_pos (Or.inl ca),Zcp]; rfl
 ·rw [if_pos (Or.inl ca),Zcp]; rfl
 ·rw [if_pos (Or.inl ca),Zcp]; rfl
 ·rw [if_pos (Or.inr cb),Zcp]; rfl
 ·rw [if_neg (by omega),if_neg (by omega),if_pos (Or.inl ca),Zev (inf5 F _)]
  simp [Ieee.Datum.product,ZfF,flR]
 ·have fb:=Zjw cb
  rw [if_neg (by omega)]
  by_cases h0 : m' = 0
  ·rw [if_pos ⟨Or.inl ca,Or.inr (z2.2 h0)⟩,Zcp]
   simp [Ieee.Datum.product,h0,flR]
  ·have : F.cls b≠1:=fun q => h0 (z2.1 q)
   rw [if_neg (by omega),if_pos (Or.inl ca),Zev (inf5 F _)]
   simp [Ieee.Datum.product,h0,ZfF,flR]
 ·rw [if_pos (Or.inr cb),Zcp]; rfl
 ·have fa:=Zjw ca
  rw [if_neg (by omega)]
  by_cases h0 : m = 0
  ·rw [if_pos ⟨Or.inr cb,Or.inl (z1.2 h0)⟩,Zcp]
   simp [Ieee.Datum.product,h0,flR]
  ·have : F.cls a≠1:=fun q => h0 (z1.1 q)
   rw [if_neg (by omega),if_pos (Or.inr cb),Zev (inf5 F _)]
   simp [Ieee.Datum.product,h0,ZfF,flR]
   cases F.ng a <;> cases F.ng b <;> rfl
 ·have fa:=Zjw ca
  have fb:=Zjw cb
  rw [if_neg (by omega),if_neg (by omega),if_neg (by omega)]
  have hp : flR (fk F) ((Ieee.Datum.product (.number (F.ng a) m i) (.number (F.ng b) m' i')).map (fk F).format.write) = .fl (fk F) (if m * m' = 0 then F.sgn (F.ng a ^^ F.ng b) else (rndW F 1 (mkD (F.ng a ^^ F.ng b) (m * m') (i + i'))).1):=by
   rw [← Zmx]; rfl
  rw [hp]
  have hx : (F.ng a ^^ F.ng b) = (F.ng a != F.ng b):=by cases F.ng a <;> cases F.ng b <;> rfl
  by_cases h0 : m * m' = 0
  ·have hc : F.cls a = 1∨F.cls b = 1:=by
    rcases Nat.mul_eq_zero.1 h0 with q | q
    ·exact Or.inl (z1.2 q)
    ·exact Or.inr (z2.2 q)
   rw [if_pos h0,if_pos hc,Zev (sgn5 F _),hx]
  ·have hm : m≠0:=fun q => h0 (by rw [q,Nat.zero_mul])
   have hm' : m'≠0:=fun q => h0 (by rw [q,Nat.mul_zero])
   have hc : ¬ (F.cls a = 1∨F.cls b = 1):=fun q => q.elim (fun r => hm (z1.1 r)) (fun r => hm' (z2.1 r))
   rw [if_neg h0,if_neg hc,Zev (sum5 F (by decide) (by decide) _),ev,ev',hx]
   have e3 : mkD (F.ng a != F.ng b) (m * m') (i + i') = mulD (mkD (F.ng a) m i) (mkD (F.ng b) m' i'):=by
    obtain ⟨a1,a2⟩:=ZbU (a:=mkD (F.ng a) m i) (b:=mkD (F.ng b) m' i') (K:=i) (L:=i') (ZcY (Int.le_refl _)) (ZcY (Int.le_refl _))
    refine Zrv (L:=i + i') (Zlt _ _ _) (Zcx _ _) (ZcY (Int.le_refl _)) a2 ?_
    rw [a1,ZhN (Int.le_refl _),ZhN (Int.le_refl _),ZhN (Int.le_refl _),Int.sub_self,Int.sub_self,Int.sub_self,show ((0 : Int)).toNat = 0 from rfl,Nat.pow_zero,Nat.mul_one,Nat.mul_one,Nat.mul_one]
    push_cast
    generalize (m : Int) = x
    generalize (m' : Int) = y
    cases F.ng a <;> cases F.ng b <;> simp [Int.mul_neg,Int.neg_mul]
   rw [e3]
   unfold sumW
   have hm0 : (mulD (mkD (F.ng a) m i) (mkD (F.ng b) m' i')).m≠0:=by rw [← e3]; exact fun r => h0 (ZoX.1 r)
   rw [if_neg hm0]
theorem Ztr {m : Nat} (h : m≠0) : blen m = m.log2 + 1:=if_neg h
theorem Zts {A b k : Nat} (hb : b≠0) (h : blen b + k≤blen A) : k≤blen (A / b):=by
 by_cases hk : k = 0
 ·omega
 have hA : A≠0:=by rintro rfl; rw [Zak] at h; omega
 have h1:=ZdC hA
 have h2 : b < 2 ^ blen b:=Zae.1 (Nat.le_refl _)
 have h3 : b * 2 ^ (k - 1)≤A:=by
  refine Nat.le_trans (Nat.le_of_lt (Nat.mul_lt_mul_of_pos_right h2 (Nat.two_pow_pos _))) ?_
  rw [← Nat.pow_add]
  exact Nat.le_trans (Nat.pow_le_pow_right (by decide) (by omega)) h1
 have h4 : 2 ^ (k - 1)≤A / b:=(Nat.le_div_iff_mul_le (Nat.pos_of_ne_zero hb)).2 (by rw [Nat.mul_comm]; exact h3)
 rcases Nat.lt_or_ge (blen (A / b)) k with q | q
 ·have:=Zae.1 (show blen (A / b)≤k - 1 by omega)
  omega
 ·exact q
theorem Zrt (F : Fm) (neg : Bool) {Q : Nat} (s : Bool) (E : Int) (h : F.fr + 2≤blen Q) : (fk F).format.nearest neg (2 * Q + s.toNat) (E - 1) = (sW F 1 neg Q s E).1:=by
 have hQ : Q≠0:=by rintro rfl; rw [Zak] at h; omega
 have hM : 2 * Q + s.toNat≠0:=by omega
 have hd : (2 * Q + s.toNat) / 2 ^ 1 = Q:=by cases s <;> simp <;> omega
 have hb : blen (2 * Q + s.toNat) = blen Q + 1:=by
  have:=Zam (2 * Q + s.toNat) 1
  rw [hd] at this
  have : blen (2 * Q + s.toNat)≠0:=fun q => by have:=ZcG hM; omega
  omega
 have hm : decide ((2 * Q + s.toNat) % 2 ^ 1≠0) = s:=by
  cases s
  ·simp
  ·simp
 rw [ZsD F neg hM,Zqx F 1 neg (E - 1) (by omega)]
 have:=Zjs F 1 neg (Q:=2 * Q + s.toNat) (j:=1) false (E - 1) (by omega)
 rw [hd,hm,Bool.false_or,show E - 1 + ((1 : Nat) : Int) = E by omega] at this
 rw [this]
theorem sW5 (F : Fm) (neg : Bool) {Q : Nat} (s : Bool) (E : Int) (h : F.fr + 2≤blen Q) : F.cls (sW F 1 neg Q s E).1≠5:=by
 have hQ : Q≠0:=by rintro rfl; rw [Zak] at h; omega
 rw [← Zrt F neg s E h,ZsD F neg (by omega)]
 exact rnd5 F (by decide) (by decide) _
theorem ZDG (F : Fm) (neg : Bool) {am bm t u more N : Nat} (hb : bm≠0) (ae be : Int) (h : F.fr + 2≤blen (am * 2 ^ t * 2 ^ more / (bm * 2 ^ u))) (h2 : F.fr + 2≤blen (am * 2 ^ N / bm)) :
  sW F 1 neg (am * 2 ^ t * 2 ^ more / (bm * 2 ^ u)) (!decide (am * 2 ^ t * 2 ^ more % (bm * 2 ^ u) = 0)) (ae - t - (be - u) - more) = sW F 1 neg (am * 2 ^ N / bm) (!decide (am * 2 ^ N % bm = 0)) (ae - be - N):=by
 have hu:=Nat.two_pow_pos u
 have hbu : bm * 2 ^ u≠0:=Nat.mul_ne_zero hb (by omega)
 have l:=ZyA F 1 neg (a:=am * 2 ^ t) (b:=bm * 2 ^ u) (N:=more) (j:=N + u) (ae - t - (be - u) - more) hbu h
 have r:=ZyA F 1 neg (a:=am) (b:=bm) (N:=N) (j:=t + more) (ae - be - N) hb h2
 have e : am * 2 ^ t * 2 ^ (more + (N + u)) = am * 2 ^ (N + (t + more)) * 2 ^ u:=by
  rw [Nat.mul_assoc,← Nat.pow_add,Nat.mul_assoc,← Nat.pow_add]; congr 2; omega
 rw [e,Nat.mul_div_mul_right _ _ hu,Nat.mul_mod_mul_right] at l
 have e2 : decide (am * 2 ^ (N + (t + more)) % bm * 2 ^ u = 0) = decide (am * 2 ^ (N + (t + more)) % bm = 0):=by
  refine decide_eq_decide.2 ⟨fun q => ?_,fun q => by rw [q,Nat.zero_mul]⟩
  rcases Nat.mul_eq_zero.1 q with q | q
  ·exact q
  ·omega
 rw [e2] at l
 rw [← l,← r]
 congr 1
 push_cast
 omega
theorem ZuU {m : Nat} (h : m≠0) : m = m / 2 ^ tz m * 2 ^ tz m:=(Zdd h).1
theorem ZEP (F : Fm) {a b : Nat} (ha : a < 2 * F.sg) (hb : b < 2 * F.sg) : flR (fk F) ((fk F).format.div a b) = flW F (divW2 F 1 a b).1:=by
 show flR (fk F) ((((fk F).format.read a).quotient ((fk F).format.fractionBits + 2) ((fk F).format.read b)).map (fk F).format.write) = _
 rw [(ie_f F).1]
 unfold divW2 divP
 have hx : (F.ng a ^^ F.ng b) = (F.ng a != F.ng b):=by cases F.ng a <;> cases F.ng b <;> rfl
 rcases Zpg F ha with ⟨ca,n,f,e⟩ | ⟨ca,e⟩ | ⟨ca,m,i,e,ev,z1⟩ <;> rcases Zpg F hb with ⟨cb,n',f',e'⟩ | ⟨cb,e'⟩ | ⟨cb,m',i',e',ev',z2⟩ <;> rw [e,e']
 ·rw [if_pos (Or.inl ca),Zcp]; rfl
 ·rw [if_pos (Or.inl ca),Zcp]; rfl
 ·rw [if_pos (Or.inl ca),Zcp]; rfl
 ·rw [if_pos (Or.inr cb),Zcp]; rfl
 ·rw [if_neg (by omega),if_pos ⟨by omega,Or.inr ca⟩,Zcp]; rfl
 ·have fb:=Zjw cb
  rw [if_neg (by omega),if_neg (by omega),if_pos ca,Zev (inf5 F _),← hx]
  simp [Ieee.Datum.quotient,ZfF,flR]
 ·rw [if_pos (Or.inr cb),Zcp]; rfl
 ·have fa:=Zjw ca
  rw [if_neg (by omega),if_neg (by omega),if_neg (by omega),if_neg (by omega),if_pos (Or.inr cb),Zev (sgn5 F _),← hx]
  simp [Ieee.Datum.quotient,Zmx,flR]
 ·have fa:=Zjw ca
  have fb:=Zjw cb
  rw [if_neg (by omega)]
  by_cases h0 : m' = 0
  ·by_cases h1 : m = 0
   ·rw [if_pos ⟨by rw [z1.2 h1,z2.2 h0],Or.inl (z1.2 h1)⟩,Zcp]
    simp [Ieee.Datum.quotient,h0,h1,flR]
   ·have ha1 : F.cls a≠1:=fun q => h1 (z1.1 q)
    rw [if_neg (by omega),if_neg fa.2,if_pos (z2.2 h0),Zev (inf5 F _),← hx]
    simp [Ieee.Datum.quotient,h0,h1,ZfF,flR]
  ·have hb1 : F.cls b≠1:=fun q => h0 (z2.1 q)
   by_cases h1 : m = 0
   ·have ha1:=z1.2 h1
    rw [if_neg (by omega),if_neg fa.2,if_neg hb1,if_pos (Or.inl ha1),Zev (sgn5 F _),← hx]
    simp [Ieee.Datum.quotient,h0,h1,Zmx,flR]
   ·have ha1 : F.cls a≠1:=fun q => h1 (z1.1 q)
    rw [if_neg (by omega),if_neg fa.2,if_neg hb1,if_neg (by omega)]
    have hq : flR (fk F) ((Ieee.Datum.quotient (F.fr + 2) (.number (F.ng a) m i) (.number (F.ng b) m' i')).map (fk F).format.write) =
      .fl (fk F) ((fk F).format.nearest (F.ng a ^^ F.ng b) (2 * (m <<< (F.fr + 2 + m'.log2 - m.log2) / m') + (m <<< (F.fr + 2 + m'.log2 - m.log2) % m' != 0).toNat) (i - i' - (F.fr + 2 + m'.log2 - m.log2 : Nat) - 1)):=by
     simp [Ieee.Datum.quotient,h0,flR]
     rfl
    rw [hq,hx]
    generalize hmore : F.fr + 2 + m'.log2 - m.log2 = more at *
    rw [Nat.shiftLeft_eq]
    have l1:=Ztr h1
    have l2:=Ztr h0
    have hbl : F.fr + 2≤blen (m * 2 ^ more / m'):=Zts h0 (by rw [Zaq h1]; omega)
    have hne : ∀ x : Nat,(x != 0) = !decide (x = 0):=fun x => by cases x <;> rfl
    rw [hne,Zrt F _ _ _ hbl]
    have hm : (mkD (F.ng a) m i).m≠0:=fun q => h1 (ZoX.1 q)
    have hm' : (mkD (F.ng b) m' i').m≠0:=fun q => h0 (ZoX.1 q)
    have hq2 : quoW F 1 (F.vl a) (F.vl b) = sW F 1 (F.ng a != F.ng b) (m * 2 ^ more / m') (!decide (m * 2 ^ more % m' = 0)) (i - i' - more):=by
     rw [ev,ev',Zaj h1,Zaj h0]
     unfold quoW
     simp only
     have s1:=ZuU h1
     have s2:=ZuU h0
     have hmz : m / 2 ^ tz m≠0:=fun q => by rw [q,Nat.zero_mul] at s1; exact h1 s1
     have hmz' : m' / 2 ^ tz m'≠0:=fun q => by rw [q,Nat.zero_mul] at s2; exact h0 s2
     have hN : F.fr + 2≤blen (m / 2 ^ tz m * 2 ^ quoN 64 (m / 2 ^ tz m) (m' / 2 ^ tz m') / (m' / 2 ^ tz m')):=Zts hmz' (by
      rw [Zaq hmz]
      have : quoN 64 (m / 2 ^ tz m) (m' / 2 ^ tz m') = 64 + 1 + blen (m' / 2 ^ tz m') - blen (m / 2 ^ tz m):=rfl
      have:=Zxo F
      omega)
     have g:=ZDG F (F.ng a != F.ng b) (am:=m / 2 ^ tz m) (bm:=m' / 2 ^ tz m') (t:=tz m) (u:=tz m') (more:=more) (N:=quoN 64 (m / 2 ^ tz m) (m' / 2 ^ tz m')) hmz' (i + tz m) (i' + tz m') (by rw [← s1,← s2]; exact hbl) hN
     rw [← s1,← s2] at g
     rw [← g]
     congr 1
     omega
    rw [hq2]
    rw [Zev (sW5 F _ _ _ hbl)]
def Fm.win : Fm→Nat
 | .s => 20
 | .d => 200
def Fm.wlo : Fm→Nat
 | .s => 107
 | .d => 823
def Fm.whi : Fm→Nat
 | .s => 147
 | .d => 1223
def inW (F : Fm) (w : Nat) : Prop:=F.wlo≤F.ex w∧F.ex w≤F.whi
instance (F : Fm) (w : Nat) : Decidable (inW F w):=inferInstanceAs (Decidable (_∧_))
theorem ZeS (hM : HasM g T) (F : Fm) : run G T 338 [.int .u8 F.u] = some (.tup [.int .i64 (F.win : Int),.int .i64 0]):=by
 rw [Zab G T hM.ZeS]
 cases F
 ·show _ = some (AV.tup [.int .i64 20,.int .i64 0])
  simp only [Fm.u]
  repeat' (first|simp (maxSteps:=9^7) only [seval,exC,ZcL]|simp (maxSteps:=9^7) (disch:=first|with_reducible assumption|omega) only [dxB]|(simp only [kdB];split)|(simp only [kvB];split))
 ·show _ = some (AV.tup [.int .i64 200,.int .i64 0])
  simp only [Fm.u]
  repeat' (first|simp (maxSteps:=9^7) only [seval,exC,ZcL]|simp (maxSteps:=9^7) (disch:=first|with_reducible assumption|omega) only [dxB]|(simp only [kdB];split)|(simp only [kvB];split))
theorem ZoW (hM : HasM g T) {f : Int} (h : ¬ (f = 1∨f = 2)) : run G T 338 [.int .u8 f] = some (.tup [.int .i64 0,.int .i64 4]):=by
 rw [Zab G T hM.ZeS]
 have h1 : ¬ f = 1:=fun q => h (Or.inl q)
 have h2 : ¬ f = 2:=fun q => h (Or.inr q)
 repeat' (first|simp (maxSteps:=9^7) only [seval,exC,ZcL,h1,h2]|simp (maxSteps:=9^7) (disch:=first|with_reducible assumption|omega) only [dxB]|(simp only [kdB];split)|(simp only [kvB];split))
theorem Zkf (hM : HasM g T) (F : Fm) : run G T 340 [.int .u8 F.u] = some (.int .i64 (F.win : Int)):=by
 rw [Zab G T hM.Zkf]
 cases F
 ·show _ = some (AV.int .i64 20)
  simp only [Fm.u]
  repeat' (first|simp (maxSteps:=9^7) only [seval,exC,Zdl]|simp (maxSteps:=9^7) (disch:=first|with_reducible assumption|omega) only [dxB]|(simp only [kdB];split)|(simp only [kvB];split))
 ·show _ = some (AV.int .i64 200)
  simp only [Fm.u]
  repeat' (first|simp (maxSteps:=9^7) only [seval,exC,Zdl]|simp (maxSteps:=9^7) (disch:=first|with_reducible assumption|omega) only [dxB]|(simp only [kdB];split)|(simp only [kvB];split))
theorem ZFa (F : Fm) : F.ex (F.inf false) = F.most:=by cases F <;> decide
theorem ZhM (e : Env) (h : Heap) : evL G T Zjz e h = kS G T (evL G T ZaS (keepE [0,6,11,13,48,49] e) h) Zjz:=Zad G T rfl e h
theorem ZkX (x y : AV) : indexV false 2 1 (.agg [x,y]) (.int .i64 0) = some x:=rfl
theorem ZkY (x y : AV) : indexV false 2 1 (.agg [x,y]) (.int .i64 1) = some y:=rfl
theorem f311 (x y z : AV) : fieldA false 1 1 (.agg [x,y,z]) = some y:=rfl
theorem ZwH {r : Bool} {p : Prop} (h : r = true↔p) : (p→r = true)∧(¬ p→r = false):=⟨h.2,fun q => by cases r; rfl; exact absurd (h.1 rfl) q⟩
set_option maxHeartbeats 4000000 in
theorem Zqa (J : Al G T g) (hM : HasM g T) (F : Fm) {a b : Nat} (ha : a < 2 * F.sg) (hb : b < 2 * F.sg) : run G T 339 [.int .u8 F.u,zA a b] = some (.tup [.bool (decide (inW F a∧inW F b)),.int .i64 0]):=by
 have hr : decide (inW F a∧inW F b) = true↔((F.wlo≤F.ex a∧F.ex a≤F.whi)∧F.wlo≤F.ex b∧F.ex b≤F.whi):=decide_eq_true_iff
 generalize decide (inW F a∧inW F b) = r at *
 have hr:=ZwH hr
 rw [Zab G T hM.Zqa]
 have w1:=ZeS (G:=G) hM F
 have p1:=ZlR J F (Zbm ha) (Zbm hb)
 rw [if_pos ⟨ha,hb⟩] at p1
 have i1:=ZkR J F (n:=false)
 have s0:=ZeW J F (w:=F.inf false) (by cases F <;> decide)
 rw [ZFa] at s0
 have s1:=ZeW J F ha
 have s2:=ZeW J F hb
 generalize F.inf false = inf at *
 generalize F.ng inf = n0 at *
 generalize F.fc inf = c0 at *
 generalize F.ng a = n1 at *
 generalize F.fc a = c1 at *
 generalize F.ng b = n2 at *
 generalize F.fc b = c2 at *
 generalize F.ex a = x at *
 generalize F.ex b = y at *
 have hm : F.most = 255∧F.win = 20∧F.wlo = 107∧F.whi = 147∨F.most = 2047∧F.win = 200∧F.wlo = 823∧F.whi = 1223:=by cases F <;> decide
 clear ha hb
 generalize F.most = mo at *
 generalize F.win = wi at *
 generalize F.wlo = lo at *
 generalize F.whi = hi at *
 generalize F.u = fu at *
 rcases hm with ⟨rfl,rfl,rfl,rfl⟩ | ⟨rfl,rfl,rfl,rfl⟩
 ·by_cases h1 : (x : Int) < 107
  ·obtain rfl:=hr.2 (by omega)
   simp only [zA,fldA,Int.cast_ofNat_Int] at *
   repeat' (first|simp (maxSteps:=9^7) only [seval,exC,ZbD,ZhM,ZaS,ZkX,ZkY,w1,p1,i1,s0,s1,h1]|simp (maxSteps:=9^7) (disch:=first|with_reducible assumption|omega) only [dxB]|(simp only [kdB];split)|(simp only [kvB];split))
  ·by_cases h2 : (147 : Int) < x
   ·obtain rfl:=hr.2 (by omega)
    simp only [zA,fldA,Int.cast_ofNat_Int] at *
    repeat' (first|simp (maxSteps:=9^7) only [seval,exC,ZbD,ZhM,ZaS,ZkX,ZkY,w1,p1,i1,s0,s1,h1,h2]|simp (maxSteps:=9^7) (disch:=first|with_reducible assumption|omega) only [dxB]|(simp only [kdB];split)|(simp only [kvB];split))
   ·by_cases h3 : (y : Int) < 107
    ·obtain rfl:=hr.2 (by omega)
     simp only [zA,fldA,Int.cast_ofNat_Int] at *
     repeat' (first|simp (maxSteps:=9^7) only [seval,exC,ZbD,ZhM,ZaS,ZkX,ZkY,w1,p1,i1,s0,s1,s2,h1,h2,h3]|simp (maxSteps:=9^7) (disch:=first|with_reducible assumption|omega) only [dxB]|(simp only [kdB];split)|(simp only [kvB];split))
    ·by_cases h4 : (147 : Int) < y
     ·obtain rfl:=hr.2 (by omega)
      simp only [zA,fldA,Int.cast_ofNat_Int] at *
      repeat' (first|simp (maxSteps:=9^7) only [seval,exC,ZbD,ZhM,ZaS,ZkX,ZkY,w1,p1,i1,s0,s1,s2,h1,h2,h3,h4]|simp (maxSteps:=9^7) (disch:=first|with_reducible assumption|omega) only [dxB]|(simp only [kdB];split)|(simp only [kvB];split))
     ·obtain rfl:=hr.1 (by omega)
      simp only [zA,fldA,Int.cast_ofNat_Int] at *
      repeat' (first|simp (maxSteps:=9^7) only [seval,exC,ZbD,ZhM,ZaS,ZkX,ZkY,w1,p1,i1,s0,s1,s2,h1,h2,h3,h4]|simp (maxSteps:=9^7) (disch:=first|with_reducible assumption|omega) only [dxB]|(simp only [kdB];split)|(simp only [kvB];split))
 ·by_cases h1 : (x : Int) < 823
  ·obtain rfl:=hr.2 (by omega)
   simp only [zA,fldA,Int.cast_ofNat_Int] at *
   repeat' (first|simp (maxSteps:=9^7) only [seval,exC,ZbD,ZhM,ZaS,ZkX,ZkY,w1,p1,i1,s0,s1,h1]|simp (maxSteps:=9^7) (disch:=first|with_reducible assumption|omega) only [dxB]|(simp only [kdB];split)|(simp only [kvB];split))
  ·by_cases h2 : (1223 : Int) < x
   ·obtain rfl:=hr.2 (by omega)
    simp only [zA,fldA,Int.cast_ofNat_Int] at *
    repeat' (first|simp (maxSteps:=9^7) only [seval,exC,ZbD,ZhM,ZaS,ZkX,ZkY,w1,p1,i1,s0,s1,h1,h2]|simp (maxSteps:=9^7) (disch:=first|with_reducible assumption|omega) only [dxB]|(simp only [kdB];split)|(simp only [kvB];split))
   ·by_cases h3 : (y : Int) < 823
    ·obtain rfl:=hr.2 (by omega)
     simp only [zA,fldA,Int.cast_ofNat_Int] at *
     repeat' (first|simp (maxSteps:=9^7) only [seval,exC,ZbD,ZhM,ZaS,ZkX,ZkY,w1,p1,i1,s0,s1,s2,h1,h2,h3]|simp (maxSteps:=9^7) (disch:=first|with_reducible assumption|omega) only [dxB]|(simp only [kdB];split)|(simp only [kvB];split))
    ·by_cases h4 : (1223 : Int) < y
     ·obtain rfl:=hr.2 (by omega)
      simp only [zA,fldA,Int.cast_ofNat_Int] at *
      repeat' (first|simp (maxSteps:=9^7) only [seval,exC,ZbD,ZhM,ZaS,ZkX,ZkY,w1,p1,i1,s0,s1,s2,h1,h2,h3,h4]|simp (maxSteps:=9^7) (disch:=first|with_reducible assumption|omega) only [dxB]|(simp only [kdB];split)|(simp only [kvB];split))
     ·obtain rfl:=hr.1 (by omega)
      simp only [zA,fldA,Int.cast_ofNat_Int] at *
      repeat' (first|simp (maxSteps:=9^7) only [seval,exC,ZbD,ZhM,ZaS,ZkX,ZkY,w1,p1,i1,s0,s1,s2,h1,h2,h3,h4]|simp (maxSteps:=9^7) (disch:=first|with_reducible assumption|omega) only [dxB]|(simp only [kdB];split)|(simp only [kvB];split))
theorem Zsq (J : Al G T g) (hM : HasM g T) (F : Fm) {a b : Nat} (ha : a < 18446744073709551616) (hb : b < 18446744073709551616) (h : ¬ (a < 2 * F.sg∧b < 2 * F.sg)) : run G T 339 [.int .u8 F.u,zA a b] = some (.tup [.bool false,.int .i64 6]):=by
 rw [Zab G T hM.Zqa]
 have w1:=ZeS (G:=G) hM F
 have p1:=ZlR J F ha hb
 rw [if_neg h] at p1
 generalize (F.win : Int) = wi at *
 simp only [zA] at *
 repeat' (first|simp (maxSteps:=9^7) only [seval,exC,ZbD,w1,p1]|simp (maxSteps:=9^7) (disch:=first|with_reducible assumption|omega) only [dxB]|(simp only [kdB];split)|(simp only [kvB];split))
theorem Zns (J : Al G T g) (hM : HasM g T) (F : Fm) {w : Nat} (hw : w < 18446744073709551616) : run G T 364 [.int .u8 F.u,.int .u64 (w : Int)] = some (.bool (decide (inW F w))):=by
 have hr : decide (inW F w) = true↔(F.wlo≤F.ex w∧F.ex w≤F.whi):=decide_eq_true_iff
 generalize decide (inW F w) = r at *
 have hr:=ZwH hr
 rw [Zab G T hM.Zns]
 have s1:=Zby J F hw
 have c1:=ZaB J F hw
 have m1:=ZeT J F
 have w1:=Zkf (G:=G) hM F
 have hc : F.cls w = 3↔(F.ex w≠0∧F.ex w < F.most):=by
  unfold Fm.cls
  by_cases h0 : F.ex w = 0
  ·rw [if_pos h0]; split <;> simp [h0]
  ·rw [if_neg h0]
   by_cases h1 : F.ex w < F.most
   ·rw [if_pos h1]; simp [h0,h1]
   ·rw [if_neg h1]; split <;> simp [h1]
 generalize F.ng w = n1 at *
 generalize F.fc w = c1' at *
 generalize F.cls w = cl at *
 generalize F.ex w = x at *
 have hm : F.most = 255∧F.win = 20∧F.wlo = 107∧F.whi = 147∨F.most = 2047∧F.win = 200∧F.wlo = 823∧F.whi = 1223:=by cases F <;> decide
 clear hw
 generalize F.most = mo at *
 generalize F.win = wi at *
 generalize F.wlo = lo at *
 generalize F.whi = hi at *
 generalize F.u = fu at *
 rcases hm with ⟨rfl,rfl,rfl,rfl⟩ | ⟨rfl,rfl,rfl,rfl⟩
 ·have e1 : IntKind.i64.wrap ((x : Int) - 127) = (x : Int) - 127∨9000 < x:=by
   by_cases h : 9000 < x
   ·exact Or.inr h
   ·exact Or.inl (Zaf (by omega))
  by_cases h3 : cl = 3
  ·have:=hc.1 h3
   have e1 : IntKind.i64.wrap ((x : Int) - 127) = (x : Int) - 127:=Zaf (by omega)
   by_cases h1 : -20≤(x : Int) - 127
   ·by_cases h2 : (x : Int) - 127≤20
    ·obtain rfl:=hr.1 (by omega)
     simp only [fldA,Int.cast_ofNat_Int] at *
     repeat' (first|simp (maxSteps:=9^7) only [seval,exC,ZbS,f311,s1,c1,m1,w1,e1,h3,h1,h2]|simp (maxSteps:=9^7) (disch:=first|with_reducible assumption|omega) only [dxB]|(simp only [kdB];split)|(simp only [kvB];split))
    ·obtain rfl:=hr.2 (by omega)
     simp only [fldA,Int.cast_ofNat_Int] at *
     repeat' (first|simp (maxSteps:=9^7) only [seval,exC,ZbS,f311,s1,c1,m1,w1,e1,h3,h1,h2]|simp (maxSteps:=9^7) (disch:=first|with_reducible assumption|omega) only [dxB]|(simp only [kdB];split)|(simp only [kvB];split))
   ·obtain rfl:=hr.2 (by omega)
    simp only [fldA,Int.cast_ofNat_Int] at *
    repeat' (first|simp (maxSteps:=9^7) only [seval,exC,ZbS,f311,s1,c1,m1,w1,e1,h3,h1]|simp (maxSteps:=9^7) (disch:=first|with_reducible assumption|omega) only [dxB]|(simp only [kdB];split)|(simp only [kvB];split))
  ·obtain rfl:=hr.2 (fun q => h3 (hc.2 (by omega)))
   simp only [fldA,Int.cast_ofNat_Int] at *
   repeat' (first|simp (maxSteps:=9^7) only [seval,exC,ZbS,f311,s1,c1,m1,w1,h3]|simp (maxSteps:=9^7) (disch:=first|with_reducible assumption|omega) only [dxB]|(simp only [kdB];split)|(simp only [kvB];split))
 ·have e1 : IntKind.i64.wrap ((x : Int) - 1023) = (x : Int) - 1023∨9000 < x:=by
   by_cases h : 9000 < x
   ·exact Or.inr h
   ·exact Or.inl (Zaf (by omega))
  by_cases h3 : cl = 3
  ·have:=hc.1 h3
   have e1 : IntKind.i64.wrap ((x : Int) - 1023) = (x : Int) - 1023:=Zaf (by omega)
   by_cases h1 : -200≤(x : Int) - 1023
   ·by_cases h2 : (x : Int) - 1023≤200
    ·obtain rfl:=hr.1 (by omega)
     simp only [fldA,Int.cast_ofNat_Int] at *
     repeat' (first|simp (maxSteps:=9^7) only [seval,exC,ZbS,f311,s1,c1,m1,w1,e1,h3,h1,h2]|simp (maxSteps:=9^7) (disch:=first|with_reducible assumption|omega) only [dxB]|(simp only [kdB];split)|(simp only [kvB];split))
    ·obtain rfl:=hr.2 (by omega)
     simp only [fldA,Int.cast_ofNat_Int] at *
     repeat' (first|simp (maxSteps:=9^7) only [seval,exC,ZbS,f311,s1,c1,m1,w1,e1,h3,h1,h2]|simp (maxSteps:=9^7) (disch:=first|with_reducible assumption|omega) only [dxB]|(simp only [kdB];split)|(simp only [kvB];split))
   ·obtain rfl:=hr.2 (by omega)
    simp only [fldA,Int.cast_ofNat_Int] at *
    repeat' (first|simp (maxSteps:=9^7) only [seval,exC,ZbS,f311,s1,c1,m1,w1,e1,h3,h1]|simp (maxSteps:=9^7) (disch:=first|with_reducible assumption|omega) only [dxB]|(simp only [kdB];split)|(simp only [kvB];split))
  ·obtain rfl:=hr.2 (fun q => h3 (hc.2 (by omega)))
   simp only [fldA,Int.cast_ofNat_Int] at *
   repeat' (first|simp (maxSteps:=9^7) only [seval,exC,ZbS,f311,s1,c1,m1,w1,h3]|simp (maxSteps:=9^7) (disch:=first|with_reducible assumption|omega) only [dxB]|(simp only [kdB];split)|(simp only [kvB];split))
theorem Znr (J : Al G T g) (hM : HasM g T) (F : Fm) {a b : Nat} (ha : a < 18446744073709551616) (hb : b < 18446744073709551616) : run G T 332 [.int .u8 F.u,zA a b] = some (.bool (decide (inW F a∧inW F b))):=by
 rw [Zab G T hM.Znr]
 have h1:=Zns J hM F ha
 have h2:=Zns J hM F hb
 by_cases ca : inW F a
 ·rw [decide_eq_true ca] at h1
  by_cases cb : inW F b
  ·rw [decide_eq_true cb] at h2
   rw [decide_eq_true ⟨ca,cb⟩]
   simp only [zA] at *
   repeat' (first|simp (maxSteps:=9^7) only [seval,exC,Zgh,h1,h2]|simp (maxSteps:=9^7) (disch:=first|with_reducible assumption|omega) only [dxB]|(simp only [kdB];split)|(simp only [kvB];split))
  ·rw [decide_eq_false cb] at h2
   rw [decide_eq_false (fun q => cb q.2)]
   simp only [zA] at *
   repeat' (first|simp (maxSteps:=9^7) only [seval,exC,Zgh,h1,h2]|simp (maxSteps:=9^7) (disch:=first|with_reducible assumption|omega) only [dxB]|(simp only [kdB];split)|(simp only [kvB];split))
 ·rw [decide_eq_false ca] at h1
  rw [decide_eq_false (fun q => ca q.1)]
  simp only [zA] at *
  repeat' (first|simp (maxSteps:=9^7) only [seval,exC,Zgh,h1]|simp (maxSteps:=9^7) (disch:=first|with_reducible assumption|omega) only [dxB]|(simp only [kdB];split)|(simp only [kvB];split))
end Go.Cv
namespace Go.Cv
variable {G : Nat→Option (List AV)} {T : Tbl} {g : Nat}
def nckA : AV→Option AV
 | .ptr b o => some (.ptr b o)
 | .iptr cs o => some (.iptr cs o)
 | .gptr g o => some (.gptr g o)
 | _ => none
def eqnA (neg : Bool) : AV→Option AV
 | .np => some (.bool !neg)
 | .ptr _ _ => some (.bool neg)
 | .iptr _ _ => some (.bool neg)
 | .gptr _ _ => some (.bool neg)
 | _ => none
section
variable (F : CallF) (d : Option Nat) (os : List IOper) (e : Env) (h : Heap)
theorem ZCn (x : IOpd) : evOps G F (⟨d,.nck x,none⟩ :: os) e h = kV G F (nckA (opd e x)) d os e h:=by
 rw [Zbs G F d _ os e h rfl (nckA (opd e x))]
 simp only [evQ]; cases opd e x <;> rfl
theorem ZCi (neg : Bool) (x : IOpd) : evOps G F (⟨d,.eqn neg x,none⟩ :: os) e h = kV G F (eqnA neg (opd e x)) d os e h:=by
 rw [Zbs G F d _ os e h rfl (eqnA neg (opd e x))]
 simp only [evQ]; cases opd e x <;> rfl
theorem ZyK (op : BinOp) (k : FloatKind) (x y : IOpd) : evOps G F (⟨d,.fbin op k x y,none⟩ :: os) e h = kV G F (evFl op k (opd e x) (opd e y)) d os e h:=Zbs G F d _ os e h rfl _ rfl
theorem ZCk (s k : FloatKind) (x : IOpd) : evOps G F (⟨d,.fcv s k x,none⟩ :: os) e h = kV G F (evFcv s k (opd e x)) d os e h:=Zbs G F d _ os e h rfl _ rfl
end
theorem ZFQ (b o : Nat) : nckA (.ptr b o) = some (.ptr b o):=rfl
theorem ZAX : eqnA false .np = some (.bool true):=rfl
theorem ZEY (b o : Nat) : eqnA false (.ptr b o) = some (.bool false):=rfl
theorem ZGw (g : Nat→Nat→Nat→Nat→Option AV) : snapA g .np = some .np:=by simp only [snapA]
theorem ZGv (g : Nat→Nat→Nat→Nat→Option AV) : snapA g .nf = some .nf:=by simp only [snapA]
theorem ZBY (g : Nat→Nat→Nat→Nat→Option AV) (k : FloatKind) : snapA g (.nan k) = some (.nan k):=by simp only [snapA]
theorem ZBh (h : Mem) (r : AV) (args : List AV) : frz h r (.np :: args) = frz h r args:=by simp [frz,reachL,reachA]
theorem ZBg (h : Mem) (r : AV) (args : List AV) : frz h r (.nf :: args) = frz h r args:=by simp [frz,reachL,reachA]
theorem Zxs (h : Mem) (r : AV) (k : FloatKind) (args : List AV) : frz h r (.nan k :: args) = frz h r args:=by simp [frz,reachL,reachA]
theorem ZBE : okCell .nf = true:=rfl
theorem ZEH : cellsA .nf = [.nf]:=rfl
theorem ZEI : cellsA .np = [.np]:=rfl
theorem ZFg (k : FloatKind) (a b : Nat) : evFl .mul k (.fl k a) (.fl k b) = some (flR k (k.format.mul a b)):=if_pos ⟨rfl,rfl⟩
theorem ZFf (k : FloatKind) (a b : Nat) : evFl .add k (.fl k a) (.fl k b) = some (flR k (k.format.add a b)):=if_pos ⟨rfl,rfl⟩
theorem ZFi (k : FloatKind) (a b : Nat) : evFl .sub k (.fl k a) (.fl k b) = some (flR k (k.format.sub a b)):=if_pos ⟨rfl,rfl⟩
theorem ZFh (k : FloatKind) (a b : Nat) : evFl .quo k (.fl k a) (.fl k b) = some (flR k (k.format.div a b)):=if_pos ⟨rfl,rfl⟩
theorem fcB : type_of% (And.intro (And.intro (And.intro @ZCn @ZCi) (And.intro @ZyK @ZCk)) (And.intro (And.intro (And.intro @ZFQ @ZAX) (And.intro @ZEY @ZGw)) (And.intro (And.intro (And.intro @ZGv @ZBY) (And.intro @ZBh @ZBg)) (And.intro (And.intro @Zxs @ZBE) (And.intro @ZEH @ZEI))))):=And.intro (And.intro (And.intro @ZCn @ZCi) (And.intro @ZyK @ZCk)) (And.intro (And.intro (And.intro @ZFQ @ZAX) (And.intro @ZEY @ZGw)) (And.intro (And.intro (And.intro @ZGv @ZBY) (And.intro @ZBh @ZBg)) (And.intro (And.intro @Zxs @ZBE) (And.intro @ZEH @ZEI))))
section
variable (hL : HasL g T)
 include hL
theorem ZtN (w : Nat) : run G T 373 [.int .u64 (w : Int)] = some (.fl .f64 w):=by
 rw [Zab G T hL.math_Float64frombits]
 show kE G _ (evL G T (.prim .of64) _ _) = _
 rw [ZkA]; rfl
theorem ZtM (w : Nat) : run G T 374 [.fl .f64 w] = some (.int .u64 (w : Int)):=by
 rw [Zab G T hL.math_Float64bits]
 show kE G _ (evL G T (.prim .b64) _ _) = _
 rw [ZkA]; rfl
theorem ZFe (w : Nat) : run G T 370 [.int .u32 (w : Int)] = some (.fl .f32 w):=by
 rw [Zab G T hL.math_Float32frombits]
 show kE G _ (evL G T (.prim .of32) _ _) = _
 rw [ZkA]; rfl
theorem ZtL (w : Nat) : run G T 371 [.fl .f32 w] = some (.int .u32 (w : Int)):=by
 rw [Zab G T hL.math_Float32bits]
 show kE G _ (evL G T (.prim .b32) _ _) = _
 rw [ZkA]; rfl
end
theorem ZEu (hL : HasL g T) {bs : List Blk} {f : List Nat} {b off : Nat} {n : Int} (h : rdBlk (Heap.mem ⟨bs,f⟩) b off 1 = some [.int .u64 n]) :
  kJ G Zbf.res (evL G T Zbf.body [(0,.ptr b off)] ⟨bs,f⟩) = some (.int .u64 n,⟨bs,f⟩):=by
 show kJ G _ (evL G T (.prim .ald) _ _) = _
 rw [ZkA,evPrim,h]; rfl
theorem ZCJ (hL : HasL g T) {bs : List Blk} {f : List Nat} {b off : Nat} {n d : Int} {h' : Heap} (h : rdBlk (Heap.mem ⟨bs,f⟩) b off 1 = some [.int .u64 n]) (hw : wrBlk ⟨bs,f⟩ b off [.int .u64 (IntKind.u64.wrap (n + d))] = some h') :
  kJ G Zbq.res (evL G T Zbq.body [(0,.ptr b off),(1,.int .u64 d)] ⟨bs,f⟩) = some (.int .u64 (IntKind.u64.wrap (n + d)),h'):=by
 show kJ G _ (evL G T (.prim .aadd) _ _) = _
 rw [ZkA,evPrim,h]
 simp only [hw]; rfl
def engB (f : Int) (n : Nat) : Blk:=⟨[.int .u8 f,.int .u64 (n : Int)],false⟩
theorem Zso {bs : List Blk} {k n : Nat} {f : Int} (h : bs[k]? = some (engB f n)) : rdAt G (Heap.mem ⟨bs,[]⟩) 1 (.ptr k 0) = some [.int .u8 f]:=by
 rw [Zyq,h]; rfl
theorem Zxc {bs : List Blk} {k n : Nat} {f : Int} (h : bs[k]? = some (engB f n)) : rdBlk (Heap.mem ⟨bs,[]⟩) k 1 1 = some [.int .u64 (n : Int)]:=by
 rw [Zot,h]; rfl
theorem ZEV {bs : List Blk} {k n m : Nat} {f : Int} (h : bs[k]? = some (engB f n)) : wrBlk ⟨bs,[]⟩ k 1 [.int .u64 (m : Int)] = some ⟨bs.set k (engB f m),[]⟩:=by
 unfold wrBlk
 simp only [h,engB]
 rfl
theorem ZzD (hL : HasL g T) (hM : HasM g T) {bs : List Blk} {k n : Nat} {f : Int} (h : bs[k]? = some (engB f n)) :
  kJ G Zau.res (evL G T Zau.body [(0,.ptr k 1)] ⟨bs,[]⟩) = some (.int .u64 (n : Int),⟨bs,[]⟩):=by
 have h1:=ZEu (G:=G) hL (Zxc h)
 repeat' (first|simp (maxSteps:=9^7) only [seval,exC,Zau,fcB,Zbi G T hL.sync_atomic_LoadUint64,Zda,h1]|simp (maxSteps:=9^7) (disch:=first|with_reducible assumption|omega) only [dxB]|(simp only [kdB];split)|(simp only [kvB];split))
theorem ZDf (hL : HasL g T) (hM : HasM g T) {bs : List Blk} {k n : Nat} {f : Int} (h : bs[k]? = some (engB f n)) (hn : n < 1000000) :
  kJ G Zao.res (evL G T Zao.body [(0,.ptr k 1),(1,.int .u64 1)] ⟨bs,[]⟩) = some (.int .u64 ((n + 1 : Nat) : Int),⟨bs.set k (engB f (n + 1)),[]⟩):=by
 have w : IntKind.u64.wrap ((n : Int) + 1) = ((n + 1 : Nat) : Int):=by rw [Zdv]; omega
 have h1:=ZCJ (G:=G) (d:=1) hL (Zxc h) (by rw [w]; exact ZEV h)
 rw [w] at h1
 repeat' (first|simp (maxSteps:=9^7) only [seval,exC,Zao,fcB,Zbi G T hL.sync_atomic_AddUint64,Zda,h1]|simp (maxSteps:=9^7) (disch:=first|with_reducible assumption|omega) only [dxB]|(simp only [kdB];split)|(simp only [kvB];split))
theorem ZwY (hL : HasL g T) (hM : HasM g T) {bs : List Blk} {k n : Nat} {f : Int} (h : bs[k]? = some (engB f n)) :
  kJ G Zaw.res (evL G T Zaw.body [(0,.ptr k 0)] ⟨bs,[]⟩) = some (.int .u64 (n : Int),⟨bs,[]⟩):=by
 have h1:=ZzD (G:=G) hL hM h
 repeat' (first|simp (maxSteps:=9^7) only [seval,exC,Zaw,fcB,Zbi G T hM.sync_atomic_Uint64_Load,Zda,h1]|simp (maxSteps:=9^7) (disch:=first|with_reducible assumption|omega) only [dxB]|(simp only [kdB];split)|(simp only [kvB];split))
theorem ZwZ (hM : HasM g T) (F : Fm) {bs : List Blk} :
  kJ G ZcK.res (evL G T ZcK.body [(0,.int .u8 F.u)] ⟨bs,[]⟩) = some (.tup [.ptr bs.length 0,.int .i64 0],⟨bs ++ [engB F.u 0],[]⟩):=by
 have h1:=ZeS (G:=G) hM F
 generalize (F.win : Int) = w at *
 repeat' (first|simp (maxSteps:=9^7) only [seval,exC,ZcK,fcB,h1,engB]|simp (maxSteps:=9^7) (disch:=first|with_reducible assumption|omega) only [dxB]|(simp only [kdB];split)|(simp only [kvB];split))
theorem ZvE (hM : HasM g T) {f : Int} (h : ¬ (f = 1∨f = 2)) {bs : List Blk} :
  kJ G ZcK.res (evL G T ZcK.body [(0,.int .u8 f)] ⟨bs,[]⟩) = some (.tup [.np,.int .i64 4],⟨bs,[]⟩):=by
 have h1:=ZoW (G:=G) hM h
 repeat' (first|simp (maxSteps:=9^7) only [seval,exC,ZcK,fcB,h1]|simp (maxSteps:=9^7) (disch:=first|with_reducible assumption|omega) only [dxB]|(simp only [kdB];split)|(simp only [kvB];split))
end Go.Cv
namespace Go.Cv
variable {G : Nat→Option (List AV)} {T : Tbl} {g : Nat}
instance (F : Fm) (a : Nat × Nat) : Decidable (Zw F a):=inferInstanceAs (Decidable (_∧_))
instance (F : Fm) (l : List (Nat × Nat)) : Decidable (Zws F l):=inferInstanceAs (Decidable (∀ c ∈ l,Zw F c))
def inZ (F : Fm) (a : Nat × Nat) : Prop:=inW F a.1∧inW F a.2
instance (F : Fm) (a : Nat × Nat) : Decidable (inZ F a):=inferInstanceAs (Decidable (_∧_))
def inZs (F : Fm) (l : List (Nat × Nat)) : Prop:=∀ c ∈ l,inZ F c
instance (F : Fm) (l : List (Nat × Nat)) : Decidable (inZs F l):=inferInstanceAs (Decidable (∀ c ∈ l,inZ F c))
theorem ZlI {F : Fm} {a : Nat × Nat} {l : List (Nat × Nat)} : inZs F (a :: l)↔inZ F a∧inZs F l:=List.forall_mem_cons
theorem Zqf {F : Fm} : inZs F []:=by intro c hc; cases hc
theorem ZsC (e : Env) (h : Heap) : evL G T Zal e h = kS G T (evL G T ZaK (keepE [0,6,13,14,15] e) h) Zal:=Zad G T rfl e h
def neE (k j n : Nat) (all : Bool) (i : Nat) : Env:=[(0,.ptr k 0),(6,.bool all),(13,.own j 0 n 2),(14,.int .i64 (n : Int)),(15,.int .i64 (i : Int))]
def zblk (a : Nat × Nat) : Blk:=⟨[.int .u64 (a.1 : Int),.int .u64 (a.2 : Int)],false⟩
theorem ZtE (J : Al G T g) (hM : HasM g T) (F : Fm) {l : List (Nat × Nat)} {k j i n : Nat} {all : Bool} {bs : List Blk} (hl : l.length≤1000) (hi : i < l.length) (hw : Zw F (zc l i)) (hk : bs[k]? = some (engB F.u n)) (hj : bs[j]? = some ⟨zcells l,false⟩) :
  evL G T Zal (neE k j l.length all i) ⟨bs,[]⟩ = evL G T Zal (neE k j l.length (all && decide (inZ F (zc l i))) (i + 1)) ⟨bs ++ [zblk (zc l i)],[]⟩:=by
 have io:=ZBj (k:=j) (n:=l.length) (i:=i) hi
 have ro:=ZBO (G:=G) (f:=[]) (w:=[]) hi (by rw [List.append_nil]; exact hj)
 have r0 : rdAt G (Heap.mem ⟨bs ++ [zblk (zc l i)],[]⟩) 1 (.ptr k 0) = some [.int .u8 F.u]:=Zso (n:=n) (by rw [List.getElem?_append_left (List.getElem?_eq_some_iff.1 hk).1]; exact hk)
 have hi' : (i : Int) < (l.length : Int):=by omega
 have w1 : IntKind.i64.wrap ((i : Int) + 1) = ((i + 1 : Nat) : Int):=by rw [Zaf (by omega)]; rfl
 have f1:=Zqa J hM F hw.1 hw.2
 have e1 : decide (inW F (zc l i).1∧inW F (zc l i).2) = decide (inZ F (zc l i)):=rfl
 rw [e1] at f1
 generalize decide (inZ F (zc l i)) = r at *
 rw [ZsC]
 unfold zblk at *
 generalize zc l i = a at *
 unfold neE
 generalize F.u = fu at *
 simp only [zA] at *
 cases all
 ·repeat' (first|simp (maxSteps:=9^7) only [seval,exC,ZaK,fcB,gaB,io,ro,r0,hi',f1,w1,Bool.false_and]|simp (maxSteps:=9^7) (disch:=first|with_reducible assumption|omega) only [dxB]|(simp only [kdB];split)|(simp only [kvB];split))
 ·repeat' (first|simp (maxSteps:=9^7) only [seval,exC,ZaK,fcB,gaB,io,ro,r0,hi',f1,w1,Bool.false_and]|simp (maxSteps:=9^7) (disch:=first|with_reducible assumption|omega) only [dxB]|(simp only [kdB];split)|(simp only [kvB];split))
theorem ZDg (J : Al G T g) (hM : HasM g T) (F : Fm) {l : List (Nat × Nat)} {k j i n : Nat} {all : Bool} {bs : List Blk} (hl : l.length≤1000) (hi : i < l.length) (h64 : (zc l i).1 < 18446744073709551616∧(zc l i).2 < 18446744073709551616) (hw : ¬ Zw F (zc l i)) (hk : bs[k]? = some (engB F.u n)) (hj : bs[j]? = some ⟨zcells l,false⟩) :
  evL G T Zal (neE k j l.length all i) ⟨bs,[]⟩ = some (.ret,[(4,.bool false),(5,.int .i64 6)],⟨bs ++ [zblk (zc l i)],[]⟩):=by
 have io:=ZBj (k:=j) (n:=l.length) (i:=i) hi
 have ro:=ZBO (G:=G) (f:=[]) (w:=[]) hi (by rw [List.append_nil]; exact hj)
 have r0 : rdAt G (Heap.mem ⟨bs ++ [zblk (zc l i)],[]⟩) 1 (.ptr k 0) = some [.int .u8 F.u]:=Zso (n:=n) (by rw [List.getElem?_append_left (List.getElem?_eq_some_iff.1 hk).1]; exact hk)
 have hi' : (i : Int) < (l.length : Int):=by omega
 have f1:=Zsq J hM F h64.1 h64.2 hw
 rw [ZsC]
 unfold zblk at *
 generalize zc l i = a at *
 unfold neE
 generalize F.u = fu at *
 simp only [zA] at *
 repeat' (first|simp (maxSteps:=9^7) only [seval,exC,ZaK,fcB,gaB,io,ro,r0,hi',f1]|simp (maxSteps:=9^7) (disch:=first|with_reducible assumption|omega) only [dxB]|(simp only [kdB];split)|(simp only [kvB];split))
theorem Zxa {k j n i : Nat} {all : Bool} {bs : List Blk} (h : n≤i) :
  evL G T Zal (neE k j n all i) ⟨bs,[]⟩ = some (.exit 0,[(0,.ptr k 0),(6,.bool all),(13,.own j 0 n 2),(14,.int .i64 (n : Int)),(15,.int .i64 (i : Int)),(16,.bool false)],⟨bs,[]⟩):=by
 have hi' : ¬ (i : Int) < (n : Int):=by omega
 rw [ZsC]
 unfold neE
 repeat' (first|simp (maxSteps:=9^7) only [seval,exC,ZaK,hi']|simp (maxSteps:=9^7) (disch:=first|with_reducible assumption|omega) only [dxB]|(simp only [kdB];split)|(simp only [kvB];split))
theorem Zrs (J : Al G T g) (hM : HasM g T) (F : Fm) {l : List (Nat × Nat)} {k j n : Nat} (hl : l.length≤1000) (h64 : W64 l) : ∀ (m i : Nat) (all : Bool) (bs : List Blk),i + m = l.length→bs[k]? = some (engB F.u n)→bs[j]? = some ⟨zcells l,false⟩ →
  ∃ bs',(Zws F (l.drop i)∧evL G T Zal (neE k j l.length all i) ⟨bs,[]⟩ = some (.exit 0,[(0,.ptr k 0),(6,.bool (all && decide (inZs F (l.drop i)))),(13,.own j 0 l.length 2),(14,.int .i64 (l.length : Int)),(15,.int .i64 (l.length : Int)),(16,.bool false)],⟨bs ++ bs',[]⟩)) ∨
   (¬ Zws F (l.drop i)∧evL G T Zal (neE k j l.length all i) ⟨bs,[]⟩ = some (.ret,[(4,.bool false),(5,.int .i64 6)],⟨bs ++ bs',[]⟩))
 | 0,i,all,bs,hm,hk,hj => by
  have hd : l.drop i = []:=List.drop_eq_nil_of_le (by omega)
  refine ⟨[],Or.inl ⟨by rw [hd]; exact Zwh,?_⟩⟩
  have : i = l.length:=by omega
  subst this
  rw [Zxa (Nat.le_refl _),hd,decide_eq_true (Zqf),Bool.and_true,List.append_nil]
 | m + 1,i,all,bs,hm,hk,hj => by
  have hi : i < l.length:=by omega
  have hd:=Zsm hi
  have hmem:=ZCv hi
  have kl:=(List.getElem?_eq_some_iff.1 hk).1
  have jl:=(List.getElem?_eq_some_iff.1 hj).1
  by_cases hw : Zw F (zc l i)
  ·obtain ⟨bs',h⟩:=Zrs J hM F hl h64 m (i + 1) (all && decide (inZ F (zc l i))) (bs ++ [zblk (zc l i)]) (by omega) (by rw [List.getElem?_append_left kl]; exact hk) (by rw [List.getElem?_append_left jl]; exact hj)
   rw [← ZtE J hM F hl hi hw hk hj,List.append_assoc] at h
   refine ⟨[zblk (zc l i)] ++ bs',?_⟩
   rw [hd,Znd]
   refine h.imp (fun q => ⟨⟨hw,q.1⟩,?_⟩) (fun q => ⟨fun r => q.1 r.2,q.2⟩)
   rw [q.2]
   have e : (all && decide (inZ F (zc l i)) && decide (inZs F (l.drop (i + 1)))) = (all && decide (inZs F (zc l i :: l.drop (i + 1)))):=by
    rw [Bool.and_assoc]
    congr 1
    rw [← Bool.decide_and]
    exact decide_eq_decide.2 ZlI.symm
   rw [e]
  ·refine ⟨[zblk (zc l i)],Or.inr ⟨by rw [hd,Znd]; exact fun q => hw q.1,ZDg J hM F hl hi (h64 _ hmem) hw hk hj⟩⟩
theorem ZzE (J : Al G T g) (hM : HasM g T) (F : Fm) {l : List (Nat × Nat)} {k j n : Nat} (hl : l.length≤1000) (h64 : W64 l) {bs : List Blk} (hk : bs[k]? = some (engB F.u n)) (hj : bs[j]? = some ⟨zcells l,false⟩) :
  ∃ bs',kJ G Zah.res (evL G T Zah.body [(0,.ptr k 0),(1,.own j 0 l.length 2)] ⟨bs,[]⟩) = some (if Zws F l then .tup [.bool (decide (inZs F l)),.int .i64 0] else .tup [.bool false,.int .i64 6],⟨bs ++ bs',[]⟩):=by
 obtain ⟨bs',h⟩:=Zrs J hM F (k:=k) (j:=j) (n:=n) hl h64 l.length 0 true bs (by omega) hk hj
 rw [List.drop_zero,Bool.true_and] at h
 refine ⟨bs',?_⟩
 unfold neE at h
 simp only [cast0] at h
 rcases h with ⟨hz,lp⟩ | ⟨hz,lp⟩
 ·rw [if_pos hz]
  generalize decide (inZs F (l)) = r at *
  repeat' (first|simp (maxSteps:=9^7) only [seval,exC,Zah,fcB,lp]|simp (maxSteps:=9^7) (disch:=first|with_reducible assumption|omega) only [dxB]|(simp only [kdB];split)|(simp only [kvB];split))
 ·rw [if_neg hz]
  repeat' (first|simp (maxSteps:=9^7) only [seval,exC,Zah,fcB,lp]|simp (maxSteps:=9^7) (disch:=first|with_reducible assumption|omega) only [dxB]|(simp only [kdB];split)|(simp only [kvB];split))
end Go.Cv
namespace Go.Cv
variable {G : Nat→Option (List AV)} {T : Tbl} {g : Nat}
def fsel (F : Fm) (p q : Nat) : Nat:=match F with
 | .s => p
 | .d => q
def opA (p q : Nat) : AV:=.agg [.fn p [],.fn q []]
def flA (F : Fm) (a : Nat) : AV:=.fl (fk F) a
theorem Zut (hM : HasM g T) (hL : HasL g T) {a : Nat} (ha : a < 4294967296) : run G T 398 [.int .u64 (a : Int)] = some (.fl .f32 a):=by
 rw [Zab G T hM.fast_op_do_1]
 have w1 : IntKind.u32.wrap (a : Int) = (a : Int):=by rw [ZkS]; omega
 have h1:=ZFe (G:=G) hL a
 repeat' (first|simp (maxSteps:=9^7) only [seval,exC,ZeX,fcB,w1,h1]|simp (maxSteps:=9^7) (disch:=first|with_reducible assumption|omega) only [dxB]|(simp only [kdB];split)|(simp only [kvB];split))
theorem ZHi (hM : HasM g T) (hL : HasL g T) (F : Fm) {p q a b c d x y : Nat} (ha : a < 2 * F.sg) (hb : b < 2 * F.sg) (hc : c < 2 * F.sg) (hd : d < 2 * F.sg) (hx : x < 2 * F.sg) (hy : y < 2 * F.sg)
  (h : run G T (fsel F p q) [flA F a,flA F b,flA F c,flA F d] = some (.tup [flA F x,flA F y])) :
  run G T 388 [opA p q,.int .u8 F.u,zA a b,zA c d] = some (zA x y):=by
 rw [Zab G T hM.fast_op_do]
 cases F
 ·have s : 2 * Fm.s.sg = 4294967296:=rfl
  rw [s] at ha hb hc hd hx hy
  have h1:=Zut (G:=G) hM hL ha
  have h2:=Zut (G:=G) hM hL hb
  have h3:=Zut (G:=G) hM hL hc
  have h4:=Zut (G:=G) hM hL hd
  have b1:=ZtL (G:=G) hL x
  have b2:=ZtL (G:=G) hL y
  have w1 : IntKind.u64.wrap (x : Int) = (x : Int):=by rw [Zdv]; omega
  have w2 : IntKind.u64.wrap (y : Int) = (y : Int):=by rw [Zdv]; omega
  simp only [zA,opA,Fm.u,fsel,flA,fk] at *
  repeat' (first|simp (maxSteps:=9^7) only [seval,exC,Zfq,fcB,h1,h2,h3,h4,h,b1,b2,w1,w2]|simp (maxSteps:=9^7) (disch:=first|with_reducible assumption|omega) only [dxB]|(simp only [kdB];split)|(simp only [kvB];split))
 ·have h1:=ZtN (G:=G) hL a
  have h2:=ZtN (G:=G) hL b
  have h3:=ZtN (G:=G) hL c
  have h4:=ZtN (G:=G) hL d
  have b1:=ZtM (G:=G) hL x
  have b2:=ZtM (G:=G) hL y
  simp only [zA,opA,Fm.u,fsel,flA,fk] at *
  repeat' (first|simp (maxSteps:=9^7) only [seval,exC,Zfq,fcB,h1,h2,h3,h4,h,b1,b2]|simp (maxSteps:=9^7) (disch:=first|with_reducible assumption|omega) only [dxB]|(simp only [kdB];split)|(simp only [kvB];split))
theorem inZ2 {F : Fm} {a b c d : Nat} : inZs F [(a,b),(c,d)]↔inZ F (a,b)∧inZ F (c,d):=by rw [ZlI,ZlI]; exact ⟨fun q => ⟨q.1,q.2.1⟩,fun q => ⟨q.1,q.2,Zqf⟩⟩
theorem Zws2 {F : Fm} {a b c d : Nat} : Zws F [(a,b),(c,d)]↔Zw F (a,b)∧Zw F (c,d):=by rw [Znd,Znd]; exact ⟨fun q => ⟨q.1,q.2.1⟩,fun q => ⟨q.1,q.2,Zwh⟩⟩
theorem zcl2 (a b c d : Nat) : zcells [(a,b),(c,d)] = [.int .u64 (a : Int),.int .u64 (b : Int),.int .u64 (c : Int),.int .u64 (d : Int)]:=rfl
theorem ZnN (J : Al G T g) (hM : HasM g T) (F : Fm) {l : List (Nat × Nat)} {k j n : Nat} (hl : l.length≤1000) (hw : Zws F l) : ∀ (m i : Nat) (all : Bool) (bs : List Blk),i + m = l.length→bs[k]? = some (engB F.u n)→bs[j]? = some ⟨zcells l,false⟩ →
  evL G T Zal (neE k j l.length all i) ⟨bs,[]⟩ = some (.exit 0,[(0,.ptr k 0),(6,.bool (all && decide (inZs F (l.drop i)))),(13,.own j 0 l.length 2),(14,.int .i64 (l.length : Int)),(15,.int .i64 (l.length : Int)),(16,.bool false)],⟨bs ++ (l.drop i).map zblk,[]⟩)
 | 0,i,all,bs,hm,hk,hj => by
  have hd : l.drop i = []:=List.drop_eq_nil_of_le (by omega)
  have : i = l.length:=by omega
  subst this
  rw [Zxa (Nat.le_refl _),hd,decide_eq_true Zqf,Bool.and_true,List.map_nil,List.append_nil]
 | m + 1,i,all,bs,hm,hk,hj => by
  have hi : i < l.length:=by omega
  have hd:=Zsm hi
  have kl:=(List.getElem?_eq_some_iff.1 hk).1
  have jl:=(List.getElem?_eq_some_iff.1 hj).1
  have h:=ZnN J hM F hl hw m (i + 1) (all && decide (inZ F (zc l i))) (bs ++ [zblk (zc l i)]) (by omega) (by rw [List.getElem?_append_left kl]; exact hk) (by rw [List.getElem?_append_left jl]; exact hj)
  rw [← ZtE J hM F hl hi (hw _ (ZCv hi)) hk hj,List.append_assoc] at h
  rw [h,hd]
  have e : (all && decide (inZ F (zc l i)) && decide (inZs F (l.drop (i + 1)))) = (all && decide (inZs F (zc l i :: l.drop (i + 1)))):=by
   rw [Bool.and_assoc]
   congr 1
   rw [← Bool.decide_and]
   exact decide_eq_decide.2 ZlI.symm
  rw [e]
  rfl
theorem Zxb (J : Al G T g) (hM : HasM g T) (F : Fm) {l : List (Nat × Nat)} {k j n : Nat} (hl : l.length≤1000) (hw : Zws F l) {bs : List Blk} (hk : bs[k]? = some (engB F.u n)) (hj : bs[j]? = some ⟨zcells l,false⟩) :
  kJ G Zah.res (evL G T Zah.body [(0,.ptr k 0),(1,.own j 0 l.length 2)] ⟨bs,[]⟩) = some (.tup [.bool (decide (inZs F l)),.int .i64 0],⟨bs ++ l.map zblk,[]⟩):=by
 have lp:=ZnN J hM F (k:=k) (j:=j) (n:=n) hl hw l.length 0 true bs (by omega) hk hj
 rw [List.drop_zero,Bool.true_and] at lp
 unfold neE at lp
 simp only [cast0] at lp
 generalize decide (inZs F l) = r at *
 repeat' (first|simp (maxSteps:=9^7) only [seval,exC,Zah,fcB,lp]|simp (maxSteps:=9^7) (disch:=first|with_reducible assumption|omega) only [dxB]|(simp only [kdB];split)|(simp only [kvB];split))
theorem near2 (J : Al G T g) (hM : HasM g T) (F : Fm) {k n a b c d : Nat} {bs L : List Blk} {j : Nat} (ha : a < 18446744073709551616) (hb : b < 18446744073709551616) (hc : c < 18446744073709551616) (hd : d < 18446744073709551616) (hk : bs[k]? = some (engB F.u n)) (hj : (bs ++ L)[j]? = some ⟨[.int .u64 (a : Int),.int .u64 (b : Int),.int .u64 (c : Int),.int .u64 (d : Int)],false⟩) :
  (Zw F (a,b)∧Zw F (c,d)→kJ G Zah.res (evL G T Zah.body [(0,.ptr k 0),(1,.own j 0 2 2)] ⟨bs ++ L,[]⟩) = some (.tup [.bool (decide (inZ F (a,b)∧inZ F (c,d))),.int .i64 0],⟨bs ++ (L ++ [zblk (a,b),zblk (c,d)]),[]⟩)) ∧
  (¬ (Zw F (a,b)∧Zw F (c,d))→∃ bs',kJ G Zah.res (evL G T Zah.body [(0,.ptr k 0),(1,.own j 0 2 2)] ⟨bs ++ L,[]⟩) = some (.tup [.bool false,.int .i64 6],⟨bs ++ (L ++ bs'),[]⟩)):=by
 have hk' : (bs ++ L)[k]? = some (engB F.u n):=by rw [List.getElem?_append_left (List.getElem?_eq_some_iff.1 hk).1]; exact hk
 refine ⟨fun q => ?_,fun q => ?_⟩
 ·have h:=Zxb J hM F (l:=[(a,b),(c,d)]) (by simp) (Zws2.2 q) hk' (by rw [hj,zcl2])
  rw [List.append_assoc,decide_eq_decide.2 (inZ2 (F:=F))] at h
  exact h
 ·obtain ⟨bs',h⟩:=ZzE J hM F (l:=[(a,b),(c,d)]) (k:=k) (j:=j) (n:=n) (bs:=bs ++ L) (by simp) (by
   intro x hx
   simp only [List.mem_cons,List.not_mem_nil,or_false] at hx
   rcases hx with rfl | rfl
   ·exact ⟨ha,hb⟩
   ·exact ⟨hc,hd⟩) hk' (by rw [hj,zcl2])
  rw [if_neg (fun r => q (Zws2.1 r)),List.append_assoc] at h
  exact ⟨bs',h⟩
section
variable {α : Type} (bs L : List α) (v : α)
theorem ga5 : (bs ++ L)[bs.length + 5]? = L[5]?:=by rw [List.getElem?_append_right (Nat.le_add_right ..),Nat.add_sub_cancel_left]
theorem ga6 : (bs ++ L)[bs.length + 6]? = L[6]?:=by rw [List.getElem?_append_right (Nat.le_add_right ..),Nat.add_sub_cancel_left]
theorem ga7 : (bs ++ L)[bs.length + 7]? = L[7]?:=by rw [List.getElem?_append_right (Nat.le_add_right ..),Nat.add_sub_cancel_left]
theorem gs5 : (bs ++ L).set (bs.length + 5) v = bs ++ L.set 5 v:=by rw [List.set_append_right _ _ (Nat.le_add_right ..),Nat.add_sub_cancel_left]
theorem gs6 : (bs ++ L).set (bs.length + 6) v = bs ++ L.set 6 v:=by rw [List.set_append_right _ _ (Nat.le_add_right ..),Nat.add_sub_cancel_left]
theorem gs7 : (bs ++ L).set (bs.length + 7) v = bs ++ L.set 7 v:=by rw [List.set_append_right _ _ (Nat.le_add_right ..),Nat.add_sub_cancel_left]
end
theorem gbB {α : Type} : type_of% (And.intro (And.intro (@ga5 α) (@ga6 α)) (And.intro (And.intro (@ga7 α) (@gs5 α)) (And.intro (@gs6 α) (@gs7 α)))):=And.intro (And.intro (@ga5 α) (@ga6 α)) (And.intro (And.intro (@ga7 α) (@gs5 α)) (And.intro (@gs6 α) (@gs7 α)))
theorem Zxd {bs : List Blk} {k n : Nat} {f : Int} (h : bs[k]? = some (engB f n)) (L : List Blk) : rdAt G (Heap.mem ⟨bs ++ L,[]⟩) 1 (.ptr k 0) = some [.int .u8 f] :=
 Zso (n:=n) (by rw [List.getElem?_append_left (List.getElem?_eq_some_iff.1 h).1]; exact h)
set_option maxHeartbeats 4000000 in
theorem ZEA (J : Al G T g) (hM : HasM g T) (hL : HasL g T) (F : Fm) {k n a b c d p q x y u : Nat} {bs : List Blk} (hz : Zw F (a,b)) (hw : Zw F (c,d)) (hi : inZ F (a,b)∧inZ F (c,d)) (hk : bs[k]? = some (engB F.u n)) (hx : x < 2 * F.sg) (hy : y < 2 * F.sg)
  (h : run G T (fsel F p q) [flA F a,flA F b,flA F c,flA F d] = some (.tup [flA F x,flA F y])) :
  ∃ bs',kJ G Zag.res (evL G T Zag.body [(0,.ptr k 0),(1,zA a b),(2,zA c d),(3,opA p q),(4,.fn u [])] ⟨bs,[]⟩) = some (.tup [zA x y,.int .i64 0],⟨bs ++ bs',[]⟩):=by
 have h1:=(near2 J hM F (k:=k) (n:=n) (bs:=bs) (L:=[zblk (a,b),zblk (c,d),⟨[.fn p [],.fn q []],false⟩,⟨[.int .u64 0,.int .u64 0],false⟩,⟨[.int .u64 (a : Int),.int .u64 (b : Int),.int .u64 (c : Int),.int .u64 (d : Int)],false⟩]) (j:=bs.length + 4) (Zbm hz.1) (Zbm hz.2) (Zbm hw.1) (Zbm hw.2) hk (by rw [ga4]; rfl)).1 ⟨hz,hw⟩
 rw [decide_eq_true hi] at h1
 have o1:=ZHi hM hL F hz.1 hz.2 hw.1 hw.2 hx hy h
 have r0:=Zxd (G:=G) hk
 simp only [zA,opA,zblk,List.cons_append,List.nil_append] at *
 clear hk hi hz hw
 generalize F.u = fu at *
 refine ⟨?_,?_⟩
 rotate_left
 ·repeat' (first|simp (maxSteps:=9^7) only [seval,exC,Zag,fcB,gaB,gbB,Zbi G T hM.fast_Engine_near,h1,o1,r0]|simp (maxSteps:=9^7) (disch:=first|with_reducible assumption|omega) only [dxB]|(simp only [kdB];split)|(simp only [kvB];split))
  exact rfl
theorem ZzC (hL : HasL g T) (hM : HasM g T) {bs : List Blk} {k n : Nat} {f : Int} (h : bs[k]? = some (engB f n)) (hn : n < 1000000) (L : List Blk) :
  kJ G Zao.res (evL G T Zao.body [(0,.ptr k 1),(1,.int .u64 1)] ⟨bs ++ L,[]⟩) = some (.int .u64 ((n + 1 : Nat) : Int),⟨bs.set k (engB f (n + 1)) ++ L,[]⟩):=by
 have kl:=(List.getElem?_eq_some_iff.1 h).1
 rw [ZDf hL hM (n:=n) (f:=f) (by rw [List.getElem?_append_left kl]; exact h) hn,List.set_append_left _ _ kl]
theorem ZyD {bs : List Blk} {k n : Nat} {f : Int} (h : bs[k]? = some (engB f n)) (m : Nat) : (bs.set k (engB f m))[k]? = some (engB f m):=by
 rw [List.getElem?_set_self (List.getElem?_eq_some_iff.1 h).1]
theorem Zpk {α : Type} {bs bs2 : List α} (h : bs2.length = bs.length) (L : List α) (i : Nat) : (bs2 ++ L)[bs.length + i]? = L[i]?:=by
 rw [← h,List.getElem?_append_right (Nat.le_add_right ..),Nat.add_sub_cancel_left]
theorem Zxx {α : Type} {bs bs2 : List α} (h : bs2.length = bs.length) (L : List α) (i : Nat) (v : α) : (bs2 ++ L).set (bs.length + i) v = bs2 ++ L.set i v:=by
 rw [← h,List.set_append_right _ _ (Nat.le_add_right ..),Nat.add_sub_cancel_left]
set_option maxHeartbeats 4000000 in
theorem Zwn (J : Al G T g) (hM : HasM g T) (hL : HasL g T) (F : Fm) {k n a b c d p q x y u f1 f2 : Nat} {bs : List Blk} (hz : Zw F (a,b)) (hw : Zw F (c,d)) (hi : ¬ (inZ F (a,b)∧inZ F (c,d))) (hk : bs[k]? = some (engB F.u n)) (hn : n < 1000000)
  (h : run G T u [.int .u8 F.u,.int .u8 1,zA a b,zA c d] = some (.tup [.agg [.int .u64 (x : Int),.int .u64 (y : Int),.int .u8 (f1 : Int),.int .u8 (f2 : Int)],.int .i64 0])) :
  ∃ bs',kJ G Zag.res (evL G T Zag.body [(0,.ptr k 0),(1,zA a b),(2,zA c d),(3,opA p q),(4,.fn u [])] ⟨bs,[]⟩) = some (.tup [zA x y,.int .i64 0],⟨bs.set k (engB F.u (n + 1)) ++ bs',[]⟩):=by
 have h1:=(near2 J hM F (k:=k) (n:=n) (bs:=bs) (L:=[zblk (a,b),zblk (c,d),⟨[.fn p [],.fn q []],false⟩,⟨[.int .u64 0,.int .u64 0],false⟩,⟨[.int .u64 (a : Int),.int .u64 (b : Int),.int .u64 (c : Int),.int .u64 (d : Int)],false⟩]) (j:=bs.length + 4) (Zbm hz.1) (Zbm hz.2) (Zbm hw.1) (Zbm hw.2) hk (by rw [ga4]; rfl)).1 ⟨hz,hw⟩
 rw [decide_eq_false hi] at h1
 have a1:=ZzC (G:=G) hL hM hk hn
 have r0:=Zxd (G:=G) (ZyD hk (n + 1))
 have hl : (bs.set k (engB F.u (n + 1))).length = bs.length:=List.length_set ..
 generalize bs.set k (engB F.u (n + 1)) = bs2 at *
 have gz:=fun L i => Zpk hl L i
 have gs:=fun L i v => Zxx hl L i v
 have gz0 : ∀ L : List Blk,(bs2 ++ L)[bs.length]? = L[0]?:=fun L => Zpk hl L 0
 simp only [zA,opA,zblk,List.cons_append,List.nil_append] at *
 clear hk hi hz hw
 generalize F.u = fu at *
 refine ⟨?_,?_⟩
 rotate_left
 ·repeat' (first|simp (maxSteps:=9^7) only [seval,exC,Zag,fcB,gaB,gbB,Zbi G T hM.fast_Engine_near,Zbi G T hM.sync_atomic_Uint64_Add,h1,r0,a1,h,hl,gz0,gz,gs]|simp (maxSteps:=9^7) (disch:=first|with_reducible assumption|omega) only [dxB]|(simp only [kdB];split)|(simp only [kvB];split))
  exact rfl
theorem ZCM (J : Al G T g) (hM : HasM g T) (hL : HasL g T) (F : Fm) {k n a b c d p q u : Nat} {bs : List Blk} (ha : a < 18446744073709551616) (hb : b < 18446744073709551616) (hc : c < 18446744073709551616) (hd : d < 18446744073709551616) (hzw : ¬ (Zw F (a,b)∧Zw F (c,d))) (hk : bs[k]? = some (engB F.u n)) :
  ∃ bs',kJ G Zag.res (evL G T Zag.body [(0,.ptr k 0),(1,zA a b),(2,zA c d),(3,opA p q),(4,.fn u [])] ⟨bs,[]⟩) = some (.tup [zA 0 0,.int .i64 6],⟨bs ++ bs',[]⟩):=by
 obtain ⟨bs',h1⟩:=(near2 J hM F (k:=k) (n:=n) (bs:=bs) (L:=[zblk (a,b),zblk (c,d),⟨[.fn p [],.fn q []],false⟩,⟨[.int .u64 0,.int .u64 0],false⟩,⟨[.int .u64 (a : Int),.int .u64 (b : Int),.int .u64 (c : Int),.int .u64 (d : Int)],false⟩]) (j:=bs.length + 4) ha hb hc hd hk (by rw [ga4]; rfl)).2 hzw
 simp only [zA,opA,zblk,List.cons_append,List.nil_append] at *
 clear hk hzw
 refine ⟨?_,?_⟩
 rotate_left
 ·repeat' (first|simp (maxSteps:=9^7) only [seval,exC,Zag,fcB,gaB,gbB,Zbi G T hM.fast_Engine_near,h1]|simp (maxSteps:=9^7) (disch:=first|with_reducible assumption|omega) only [dxB]|(simp only [kdB];split)|(simp only [kvB];split))
  exact rfl
end Go.Cv
namespace Go.Cv
variable {G : Nat→Option (List AV)} {T : Tbl} {g : Nat}
def L3 (a b c d : Nat) : List Blk:=[zblk (a,b),zblk (c,d),⟨[.int .u64 0,.int .u64 0],false⟩]
theorem ZEj (hM : HasM g T) {v : AV} {bs bs2 : List Blk} {a b c d x y : Nat} {e : Int} (hl : bs2.length = bs.length)
  (h : ∃ bs',kJ G Zag.res (evL G T Zag.body [(0,v),(1,zA a b),(2,zA c d),(3,opA 361 362),(4,.fn 252 [])] ⟨bs ++ L3 a b c d,[]⟩) = some (.tup [zA x y,.int .i64 e],⟨bs2 ++ (L3 a b c d ++ bs'),[]⟩)) :
  ∃ bs',kJ G ZaJ.res (evL G T ZaJ.body [(0,v),(1,zA a b),(2,zA c d)] ⟨bs,[]⟩) = some (.tup [zA x y,.int .i64 e],⟨bs2 ++ bs',[]⟩):=by
 obtain ⟨bs',h⟩:=h
 have gz0 : ∀ L : List Blk,(bs2 ++ L)[bs.length]? = L[0]?:=fun L => Zpk hl L 0
 have gz:=fun L i => Zpk hl L i
 have gs:=fun L i v => Zxx hl L i v
 simp only [zA,opA,zblk,L3,List.cons_append,List.nil_append] at *
 refine ⟨?_,?_⟩
 rotate_left
 ·repeat' (first|simp (maxSteps:=9^7) only [seval,exC,ZaJ,fcB,gaB,gbB,Zbi G T hM.fast_Engine_ask,h,gz0,gz,gs]|simp (maxSteps:=9^7) (disch:=first|with_reducible assumption|omega) only [dxB]|(simp only [kdB];split)|(simp only [kvB];split))
  exact rfl
theorem Zwd (hM : HasM g T) {v : AV} {bs bs2 : List Blk} {a b c d x y : Nat} {e : Int} (hl : bs2.length = bs.length)
  (h : ∃ bs',kJ G Zag.res (evL G T Zag.body [(0,v),(1,zA a b),(2,zA c d),(3,opA 366 367),(4,.fn 257 [])] ⟨bs ++ L3 a b c d,[]⟩) = some (.tup [zA x y,.int .i64 e],⟨bs2 ++ (L3 a b c d ++ bs'),[]⟩)) :
  ∃ bs',kJ G Zai.res (evL G T Zai.body [(0,v),(1,zA a b),(2,zA c d)] ⟨bs,[]⟩) = some (.tup [zA x y,.int .i64 e],⟨bs2 ++ bs',[]⟩):=by
 obtain ⟨bs',h⟩:=h
 have gz0 : ∀ L : List Blk,(bs2 ++ L)[bs.length]? = L[0]?:=fun L => Zpk hl L 0
 have gz:=fun L i => Zpk hl L i
 have gs:=fun L i v => Zxx hl L i v
 simp only [zA,opA,zblk,L3,List.cons_append,List.nil_append] at *
 refine ⟨?_,?_⟩
 rotate_left
 ·repeat' (first|simp (maxSteps:=9^7) only [seval,exC,Zai,fcB,gaB,gbB,Zbi G T hM.fast_Engine_ask,h,gz0,gz,gs]|simp (maxSteps:=9^7) (disch:=first|with_reducible assumption|omega) only [dxB]|(simp only [kdB];split)|(simp only [kvB];split))
  exact rfl
structure Ans (F : Fm) (res : List IRes) (body : IC) (args : List (Nat × AV)) (k : Nat) (v : AV) (e : Int) (n m : Nat) (G : Nat→Option (List AV)) (T : Tbl) : Prop where
 run : ∀ bs : List Blk,bs[k]? = some (engB F.u n)→∃ bs',kJ G res (evL G T body ((0,.ptr k 0) :: args) ⟨bs,[]⟩) = some (.tup [v,.int .i64 e],⟨bs.set k (engB F.u m) ++ bs',[]⟩)
theorem ZuL {bs : List Blk} {k n : Nat} {f : Int} (h : bs[k]? = some (engB f n)) : bs.set k (engB f n) = bs:=by
 obtain ⟨kl,hk⟩:=List.getElem?_eq_some_iff.1 h
 rw [← hk,List.set_getElem_self]
theorem Zvu {bs L : List Blk} {k n : Nat} {f : Int} (h : bs[k]? = some (engB f n)) : (bs ++ L)[k]? = some (engB f n):=by
 rw [List.getElem?_append_left (List.getElem?_eq_some_iff.1 h).1]; exact h
theorem Zwm {bs L : List Blk} {k n m : Nat} {f : Int} (h : bs[k]? = some (engB f n)) : (bs ++ L).set k (engB f m) = bs.set k (engB f m) ++ L :=
 List.set_append_left _ _ (List.getElem?_eq_some_iff.1 h).1
section
variable (J : Al G T g) (hM : HasM g T) (hL : HasL g T) (F : Fm)
 include J hM hL
theorem ZCB {k n a b c d x y f1 f2 : Nat} (hz : Zw F (a,b)) (hw : Zw F (c,d)) (hi : ¬ (inZ F (a,b)∧inZ F (c,d))) (hn : n < 1000000)
  (h : run G T 252 [.int .u8 F.u,.int .u8 1,zA a b,zA c d] = some (.tup [.agg [.int .u64 (x : Int),.int .u64 (y : Int),.int .u8 (f1 : Int),.int .u8 (f2 : Int)],.int .i64 0])) :
  Ans F ZaJ.res ZaJ.body [(1,zA a b),(2,zA c d)] k (zA x y) 0 n (n + 1) G T :=
 ⟨fun bs hk => by
  refine ZEj hM (List.length_set ..) ?_
  obtain ⟨bs',h⟩:=Zwn J hM hL F (p:=361) (q:=362) (u:=252) hz hw hi (Zvu (L:=L3 a b c d) hk) hn h
  exact ⟨bs',by rw [h,Zwm hk,List.append_assoc]⟩⟩
theorem ZEi {k n a b c d x y : Nat} (hz : Zw F (a,b)) (hw : Zw F (c,d)) (hi : inZ F (a,b)∧inZ F (c,d)) (hx : x < 2 * F.sg) (hy : y < 2 * F.sg)
  (h : run G T (fsel F 366 367) [flA F a,flA F b,flA F c,flA F d] = some (.tup [flA F x,flA F y])) : Ans F Zai.res Zai.body [(1,zA a b),(2,zA c d)] k (zA x y) 0 n n G T :=
 ⟨fun bs hk => by
  rw [ZuL hk]
  refine Zwd hM rfl ?_
  obtain ⟨bs',h⟩:=ZEA J hM hL F (u:=257) hz hw hi (Zvu (L:=L3 a b c d) hk) hx hy h
  exact ⟨bs',by rw [h,List.append_assoc]⟩⟩
theorem ZCy {k n a b c d x y f1 f2 : Nat} (hz : Zw F (a,b)) (hw : Zw F (c,d)) (hi : ¬ (inZ F (a,b)∧inZ F (c,d))) (hn : n < 1000000)
  (h : run G T 257 [.int .u8 F.u,.int .u8 1,zA a b,zA c d] = some (.tup [.agg [.int .u64 (x : Int),.int .u64 (y : Int),.int .u8 (f1 : Int),.int .u8 (f2 : Int)],.int .i64 0])) :
  Ans F Zai.res Zai.body [(1,zA a b),(2,zA c d)] k (zA x y) 0 n (n + 1) G T :=
 ⟨fun bs hk => by
  refine Zwd hM (List.length_set ..) ?_
  obtain ⟨bs',h⟩:=Zwn J hM hL F (p:=366) (q:=367) (u:=257) hz hw hi (Zvu (L:=L3 a b c d) hk) hn h
  exact ⟨bs',by rw [h,Zwm hk,List.append_assoc]⟩⟩
theorem ZCx {k n a b c d : Nat} (ha : a < 18446744073709551616) (hb : b < 18446744073709551616) (hc : c < 18446744073709551616) (hd : d < 18446744073709551616) (hzw : ¬ (Zw F (a,b)∧Zw F (c,d))) :
  Ans F Zai.res Zai.body [(1,zA a b),(2,zA c d)] k (zA 0 0) 6 n n G T :=
 ⟨fun bs hk => by
  rw [ZuL hk]
  refine Zwd hM rfl ?_
  obtain ⟨bs',h⟩:=ZCM J hM hL F (p:=366) (q:=367) (u:=257) ha hb hc hd hzw (Zvu (L:=L3 a b c d) hk)
  exact ⟨bs',by rw [h,List.append_assoc]⟩⟩
end
end Go.Cv
namespace Go.Cv
variable {G : Nat→Option (List AV)} {T : Tbl} {g : Nat}
theorem Ans.use {F : Fm} {res : List IRes} {body : IC} {args : List (Nat × AV)} {k : Nat} {v : AV} {e : Int} {n m : Nat} (h : Ans F res body args k v e n m G T) {bs : List Blk} (hk : bs[k]? = some (engB F.u n)) :
  ∃ B : List Blk,kJ G res (evL G T body ((0,.ptr k 0) :: args) ⟨bs,[]⟩) = some (.tup [v,.int .i64 e],⟨B,[]⟩)∧B[k]? = some (engB F.u m)∧(∀ (i : Nat) (b : Blk),i≠k→bs[i]? = some b→B[i]? = some b):=by
 obtain ⟨bs',q⟩:=h.run bs hk
 have hl : (bs.set k (engB F.u m)).length = bs.length:=List.length_set ..
 refine ⟨_,q,Zvu (ZyD hk m),fun i b hi hb => ?_⟩
 have hi2:=(List.getElem?_eq_some_iff.1 hb).1
 rw [List.getElem?_append_left (by omega),List.getElem?_set_ne (by omega),hb]
theorem Zpi {bs : List Blk} {i : Nat} {b : Blk} (h : bs[i]? = some b) (L : List Blk) : (bs ++ L)[i]? = some b:=by
 rw [List.getElem?_append_left (List.getElem?_eq_some_iff.1 h).1]; exact h
theorem Znc (hL : HasL g T) (hM : HasM g T) {bs : List Blk} {k n : Nat} {f : Int} (h : bs[k]? = some (engB f n)) (L : List Blk) :
  kJ G Zaw.res (evL G T Zaw.body [(0,.ptr k 0)] ⟨bs ++ L,[]⟩) = some (.int .u64 (n : Int),⟨bs ++ L,[]⟩):=ZwY hL hM (Zvu h)
theorem ZxU : mulZ .d 1 9218868437227405312 0 4607182418800017408 4607182418800017408 = ((9218868437227405312,0),(9218868437227405312,0)):=by decide +kernel
theorem Zlh (J : Al G T g) (hM : HasM g T) (hL : HasL g T) : run G T 329 [] = some (.bool true):=by
 rw [Zab G T hM.Zlh]
 have x1:=ZnT J .d (md:=1) (by decide) (a:=9218868437227405312) (b:=0) (c:=4607182418800017408) (d:=4607182418800017408) (by decide) (by decide) (by decide) (by decide)
 rw [ZxU] at x1
 have n1:=ZwZ (G:=G) hM .d (bs:=[])
 obtain ⟨B,m1,hk,_⟩:=(ZCB J hM hL .d (k:=0) (n:=0) (a:=9218868437227405312) (b:=0) (c:=4607182418800017408) (d:=4607182418800017408) (by constructor <;> decide) (by constructor <;> decide) (by decide) (by decide) x1).use (bs:=[engB 2 0]) rfl
 have f1:=Znc (G:=G) hL hM hk
 have hnil : (Heap.nil : Heap) = ⟨[],[]⟩:=rfl
 simp only [zA,Fm.u,List.nil_append,List.length_nil,cast0,Int.cast_ofNat_Int,show ((0 : Nat) : Int) = 0 from rfl,show ((0 + 1 : Nat) : Int) = 1 from rfl] at *
 repeat' (first|simp (maxSteps:=9^7) only [seval,exC,ZfM,fcB,gaB,Zbi G T hM.fast_New,Zbi G T hM.fast_Engine_Mul,Zbi G T hM.fast_Engine_Falls,n1,m1,f1,ZuW,Zvn,and_self,hnil]|simp (maxSteps:=9^7) (disch:=first|with_reducible assumption|omega) only [dxB]|(simp only [kdB];split)|(simp only [kvB];split))
def Rl (U : Nat) (n r : Int) : Prop:=U * (n - r).natAbs≤n.natAbs
theorem ZCG (U : Nat) : Rl U 0 0:=by unfold Rl; simp
theorem ZCH {p : Nat} (hp : 1≤p) {n r : Int} (h : Rn p n r) : Rl (2 ^ p) n r:=by
 obtain ⟨_,_,h3,h4⟩:=h
 unfold Rl
 by_cases hk : bl n≤p
 ·have e : P2 (bl n - p) = 1:=by rw [show bl n - p = 0 by omega]; rfl
  rw [e] at h3 h4
  have : n - r = 0:=by omega
  rw [this]; simp
 ·have h0 : n≠0:=fun q => hk (by rw [q]; exact Nat.zero_le _)
  have hg:=ZEB h0
  obtain ⟨k,ek⟩ : ∃ k,k = bl n - p:=⟨_,rfl⟩
  rw [← ek] at h3 h4
  have e1 : bl n - 1 = k + (p - 1):=by omega
  rw [e1] at hg
  have e2 : (2 : Nat) ^ p = 2 * 2 ^ (p - 1):=by rw [show p = (p - 1) + 1 by omega,Nat.pow_succ,Nat.add_sub_cancel]; omega
  have e3 : P2 (k + (p - 1)) = P2 k * P2 (p - 1):=by unfold P2; rw [Nat.pow_add]; exact Int.natCast_mul ..
  rw [e3] at hg
  have hb : 2 * (n - r).natAbs≤(P2 k).toNat:=by have:=ZnD k; omega
  have e4 : (P2 k).toNat = 2 ^ k:=rfl
  have e5 : P2 k * P2 (p - 1) = ((2 ^ k * 2 ^ (p - 1) : Nat) : Int):=by unfold P2; exact (Int.natCast_mul ..).symm
  rw [e5] at hg
  rw [e4] at hb
  have hm:=Nat.mul_le_mul_right (2 ^ (p - 1)) hb
  rw [e2,Nat.mul_assoc,Nat.mul_comm (2 ^ (p - 1)) (n - r).natAbs,← Nat.mul_assoc]
  omega
theorem ZCT {n : Int} {k : Nat} (h : n.natAbs < 2 ^ k) : bl n≤k:=Zae.2 h
theorem ZAm (F : Fm) {d : Dy} (h0 : d.m≠0) (ht : d.e + blen d.m < F.wide) : (rndW F 1 d).2≠20:=by
 have hF:=ZaH F
 have hw : F.low + F.fr + 2 < F.wide:=by cases F <;> decide
 obtain ⟨b1,_,_,_⟩:=Zki F (md:=1) h0
 unfold rndW
 simp only [if_neg h0]
 have hE : F.eOf (d.e + blen d.m) = max (d.e + blen d.m - F.fr - 1) F.low:=rfl
 have hb : blen (rnd 1 d.n d.m d.e (F.eOf (d.e + blen d.m))).1≤F.fr + 2:=Zae.2 (by rw [Nat.pow_succ 2 (F.fr + 1)]; have:=Nat.two_pow_pos (F.fr + 1); omega)
 unfold wordOf
 rw [if_neg (by omega)]
 simp only
 split
 ·decide
 ·split <;> decide
theorem ZGF {d : Dy} {L : Int} {k : Nat} (h0 : d.m≠0) (hl : LoE d L) (h : (iv d L).natAbs < 2 ^ k) : d.e + blen d.m≤L + k:=by
 have h1:=ZCT h
 rw [ZCQ,Zaq h0] at h1
 have:=Zzz hl h0
 omega
theorem ZkP (F : Fm) {d : Dy} (hl : LoE d F.low) {k : Nat} (h : (iv d F.low).natAbs < 2 ^ k) (hk : F.low + k < F.wide) : (sumW F 1 d).2≠20:=by
 unfold sumW
 by_cases h0 : d.m = 0
 ·rw [if_pos h0]; exact (by decide : (0 : Nat)≠20)
 ·rw [if_neg h0]
  exact ZAm F h0 (by have:=ZGF h0 hl h; omega)
structure Fb (F : Fm) (w k : Nat) : Prop where
 lt : w < 2 * F.sg
 fin : F.fin w
 hi : (F.X w).natAbs < 2 ^ k
def F1 (F : Fm) : Nat:=2 ^ (F.fr + 1)
theorem ZCE {U : Nat} {n r : Int} (hU : 1≤U) (h : Rl U n r) : r.natAbs≤2 * n.natAbs:=by
 unfold Rl at h
 have : 1 * (n - r).natAbs≤U * (n - r).natAbs:=Nat.mul_le_mul_right _ hU
 omega
theorem Zse (F : Fm) : 16777216≤F1 F:=by cases F <;> decide
theorem ZEs (F : Fm) {a b k : Nat} (ha : Fb F a k) (hb : Fb F b k) (hk : F.low + (k + 1 : Nat) < F.wide) : Fb F (addW F 1 a b).1 (k + 2)∧Rl (F1 F) (F.X a + F.X b) (F.X (addW F 1 a b).1):=by
 have hs : (F.X a + F.X b).natAbs < 2 ^ (k + 1):=by have:=ha.hi; have:=hb.hi; rw [Nat.pow_succ]; omega
 have hv : (addW F 1 a b).2≠20:=by
  unfold addW
  rw [Ziw F 1 (Zap.1 ha.fin) (Zap.1 hb.fin)]
  by_cases q : F.cls a = 1∧F.cls b = 1∧F.ng a = F.ng b
  ·rw [if_pos q]; exact (by decide : (0 : Nat)≠20)
  ·rw [if_neg q]
   obtain ⟨i1,i2⟩:=Zdn (Zbe ha.fin) (Zbe hb.fin)
   exact ZkP F i2 (by rw [i1]; exact hs) hk
 obtain ⟨h1,h2,h3⟩:=Zwj F ha.lt hb.lt ha.fin hb.fin hv
 have h4:=ZCH (by omega) h3
 have:=ZCE (Nat.one_le_two_pow) h4
 exact ⟨⟨h1,h2,by rw [Nat.pow_succ 2 (k + 1)]; omega⟩,h4⟩
theorem ZGB (F : Fm) {a b k : Nat} (ha : Fb F a k) (hb : Fb F b k) (hk : F.low + (k + 1 : Nat) < F.wide) : Fb F (subW F 1 a b).1 (k + 2)∧Rl (F1 F) (F.X a - F.X b) (F.X (subW F 1 a b).1):=by
 have hs : (F.X a - F.X b).natAbs < 2 ^ (k + 1):=by have:=ha.hi; have:=hb.hi; rw [Nat.pow_succ]; omega
 have hv : (subW F 1 a b).2≠20:=by
  unfold subW
  rw [Ziw F 1 (Zap.1 ha.fin) (Zap.1 hb.fin)]
  by_cases q : F.cls a = 1∧F.cls b = 1∧F.ng a = !F.ng b
  ·rw [if_pos q]; exact (by decide : (0 : Nat)≠20)
  ·rw [if_neg q]
   obtain ⟨i1,i2⟩:=ZlJ (Zbe ha.fin) (Zbe hb.fin)
   exact ZkP F i2 (by rw [show addD (F.vl a) (negD (F.vl b)) = subD (F.vl a) (F.vl b) from rfl,i1]; exact hs) hk
 obtain ⟨h1,h2,h3⟩:=ZyR F ha.lt hb.lt ha.fin hb.fin hv
 have h4:=ZCH (by omega) h3
 have:=ZCE (Nat.one_le_two_pow) h4
 exact ⟨⟨h1,h2,by rw [Nat.pow_succ 2 (k + 1)]; omega⟩,h4⟩
def Fm.sh (F : Fm) : Nat:=(-F.low).toNat
theorem ZFO (F : Fm) {a b k : Nat} {A B : Int} (ha : Fb F a k) (hb : Fb F b k) (la : LoE (F.vl a) A) (lb : LoE (F.vl b) B) (hAB : F.low≤A + B) (hk : F.low + F.low + (2 * k : Nat) < F.wide) :
  Fb F (mulW2 F 1 a b).1 (2 * k - F.sh + 1)∧Rl (F1 F) (F.X a * F.X b) (F.X (mulW2 F 1 a b).1 * (2 ^ F.sh : Nat)):=by
 have hF:=ZaH F
 have hsh : (F.sh : Int) = -F.low:=by unfold Fm.sh; omega
 obtain ⟨i0,l0⟩:=ZbU (Zbe ha.fin) (Zbe hb.fin)
 have l1 : LoE (mulD (F.vl a) (F.vl b)) F.low:=(ZbU la lb).2.mono hAB
 have hsc:=Zjf (L':=F.low + F.low) l1 (by omega)
 rw [i0,show (F.low - (F.low + F.low)).toNat = F.sh by omega] at hsc
 change F.X a * F.X b = _ at hsc
 have hm : (F.X a * F.X b).natAbs < 2 ^ (2 * k):=by
  rw [Int.natAbs_mul,show 2 * k = k + k by omega,Nat.pow_add]
  exact Nat.mul_lt_mul'' ha.hi hb.hi
 have hlt : (iv (mulD (F.vl a) (F.vl b)) F.low).natAbs < 2 ^ (2 * k - F.sh):=by
  rw [hsc,Int.natAbs_mul,Int.natAbs_natCast] at hm
  by_cases hks : F.sh≤2 * k
  ·rw [show 2 * k = (2 * k - F.sh) + F.sh by omega,Nat.pow_add] at hm
   exact Nat.lt_of_mul_lt_mul_right hm
  ·have h0 : (iv (mulD (F.vl a) (F.vl b)) F.low).natAbs = 0:=by
    rcases Nat.eq_zero_or_pos (iv (mulD (F.vl a) (F.vl b)) F.low).natAbs with q | q
    ·exact q
    ·exfalso
     have h1 : 1 * 2 ^ F.sh≤(iv (mulD (F.vl a) (F.vl b)) F.low).natAbs * 2 ^ F.sh:=Nat.mul_le_mul_right _ q
     have h2 : 2 ^ (2 * k)≤2 ^ F.sh:=Nat.pow_le_pow_right (by decide) (by omega)
     omega
   rw [h0]; exact Nat.two_pow_pos _
 by_cases hz : F.cls a = 1∨F.cls b = 1
 ·have e : mulW2 F 1 a b = (F.sgn (F.ng a != F.ng b),0):=by unfold mulW2; rw [Znk F 1 (Zap.1 ha.fin) (Zap.1 hb.fin),if_pos hz]
  have hx : F.X a * F.X b = 0:=by
   rcases hz with q | q
   ·rw [Zjy ha.lt q,Int.zero_mul]
   ·rw [Zjy hb.lt q,Int.mul_zero]
  rw [e,hx]
  obtain ⟨g1,g2,_⟩:=Zkl F (F.ng a != F.ng b)
  refine ⟨⟨g1,g2,?_⟩,?_⟩
  ·show (F.X (F.sgn (F.ng a != F.ng b))).natAbs < _
   rw [Zwg]; exact Nat.two_pow_pos _
  ·show Rl _ _ (F.X (F.sgn (F.ng a != F.ng b)) * _)
   rw [Zwg,Int.zero_mul]; exact ZCG _
 ·have e : mulW2 F 1 a b = sumW F 1 (mulD (F.vl a) (F.vl b)):=by unfold mulW2; rw [Znk F 1 (Zap.1 ha.fin) (Zap.1 hb.fin),if_neg hz]
  rw [e]
  obtain ⟨h1,h2,h3⟩:=Zvi F l1 (ZkP F l1 hlt (by omega))
  have h4:=ZCH (by omega) h3
  have h5:=ZCE (Nat.one_le_two_pow) h4
  refine ⟨⟨h1,h2,by rw [Nat.pow_succ]; omega⟩,?_⟩
  rw [hsc]
  unfold Rl at h4 ⊢
  rw [← Int.sub_mul,Int.natAbs_mul,Int.natAbs_mul,Int.natAbs_natCast,← Nat.mul_assoc]
  exact Nat.mul_le_mul_right _ h4
end Go.Cv
