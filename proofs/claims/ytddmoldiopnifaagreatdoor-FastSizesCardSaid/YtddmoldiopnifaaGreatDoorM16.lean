/-
 A part of the proof of the statements of this seat (texts that the law's own text leans on): no condition.
-/
import Derived.Test.YtddmoldiopnifaaGreatDoorM15
import Derived.Test.YtddmoldiopnifaaGreatDoorM7
import Derived.Test.YtddmoldiopnifaaGreatDoorM14
set_option linter.unusedVariables false
set_option linter.unusedSimpArgs false
namespace Go.Cv
theorem Zpu {m : Nat} (h : m≠0) : blen m = m.log2 + 1:=if_neg h
theorem Zte {A b k : Nat} (hb : b≠0) (h : blen b + k≤blen A) : k≤blen (A / b):=by
 by_cases hk : k = 0
 ·omega
 have hA : A≠0:=by rintro rfl; rw [Zal] at h; omega
 have h1:=Zbo hA
 have h2 : b < 2 ^ blen b:=Zae.1 (Nat.le_refl _)
 have h3 : b * 2 ^ (k - 1)≤A:=by
  refine Nat.le_trans (Nat.le_of_lt (Nat.mul_lt_mul_of_pos_right h2 (Nat.two_pow_pos _))) ?_
  rw [← Nat.pow_add]
  exact Nat.le_trans (Nat.pow_le_pow_right (by decide) (by omega)) h1
 have h4 : 2 ^ (k - 1)≤A / b:=(Nat.le_div_iff_mul_le (Nat.pos_of_ne_zero hb)).2 (by rw [Nat.mul_comm]; exact h3)
 rcases Nat.lt_or_ge (blen (A / b)) k with q | q
 ·have:=Zae.1 (show blen (A / b)≤k - 1 by omega)
  omega
 ·exact q
theorem ZlB (F : Fm) (neg : Bool) {Q : Nat} (s : Bool) (E : Int) (h : F.fr + 2≤blen Q) : (fk F).format.nearest neg (2 * Q + s.toNat) (E - 1) = (sW F 1 neg Q s E).1:=by
 have hQ : Q≠0:=by rintro rfl; rw [Zal] at h; omega
 have hM : 2 * Q + s.toNat≠0:=by omega
 have hd : (2 * Q + s.toNat) / 2 ^ 1 = Q:=by cases s <;> simp <;> omega
 have hb : blen (2 * Q + s.toNat) = blen Q + 1:=by
  have:=Zam (2 * Q + s.toNat) 1
  rw [hd] at this
  have : blen (2 * Q + s.toNat)≠0:=fun q => by have:=ZaS hM; omega
  omega
 have hm : decide ((2 * Q + s.toNat) % 2 ^ 1≠0) = s:=by
  cases s
  ·simp
  ·simp
 rw [Zqc F neg hM,Zoo F 1 neg (E - 1) (by omega)]
 have:=ZfT F 1 neg (Q:=2 * Q + s.toNat) (j:=1) false (E - 1) (by omega)
 rw [hd,hm,Bool.false_or,show E - 1 + ((1 : Nat) : Int) = E by omega] at this
 rw [this]
theorem sW5 (F : Fm) (neg : Bool) {Q : Nat} (s : Bool) (E : Int) (h : F.fr + 2≤blen Q) : F.cls (sW F 1 neg Q s E).1≠5:=by
 have hQ : Q≠0:=by rintro rfl; rw [Zal] at h; omega
 rw [← ZlB F neg s E h,Zqc F neg (by omega)]
 exact rnd5 F (by decide) (by decide) _
theorem ZDz (F : Fm) (neg : Bool) {am bm t u more N : Nat} (hb : bm≠0) (ae be : Int) (h : F.fr + 2≤blen (am * 2 ^ t * 2 ^ more / (bm * 2 ^ u))) (h2 : F.fr + 2≤blen (am * 2 ^ N / bm)) :
  sW F 1 neg (am * 2 ^ t * 2 ^ more / (bm * 2 ^ u)) (!decide (am * 2 ^ t * 2 ^ more % (bm * 2 ^ u) = 0)) (ae - t - (be - u) - more) = sW F 1 neg (am * 2 ^ N / bm) (!decide (am * 2 ^ N % bm = 0)) (ae - be - N):=by
 have hu:=Nat.two_pow_pos u
 have hbu : bm * 2 ^ u≠0:=Nat.mul_ne_zero hb (by omega)
 have l:=ZBN F 1 neg (a:=am * 2 ^ t) (b:=bm * 2 ^ u) (N:=more) (j:=N + u) (ae - t - (be - u) - more) hbu h
 have r:=ZBN F 1 neg (a:=am) (b:=bm) (N:=N) (j:=t + more) (ae - be - N) hb h2
 have e : am * 2 ^ t * 2 ^ (more + (N + u)) = am * 2 ^ (N + (t + more)) * 2 ^ u:=by
  rw [Nat.mul_assoc,← Nat.pow_add,Nat.mul_assoc,← Nat.pow_add]; congr 2; omega
 rw [e,Nat.mul_div_mul_right _ _ hu,Nat.mul_mod_mul_right] at l
 have e2 : decide (am * 2 ^ (N + (t + more)) % bm * 2 ^ u = 0) = decide (am * 2 ^ (N + (t + more)) % bm = 0):=by
  refine decide_eq_decide.2 ⟨fun q => ?_,fun q => by rw [q,Nat.zero_mul]⟩
  rcases Nat.mul_eq_zero.1 q with q | q
  ·exact q
  ·omega
 rw [e2] at l
 rw [← l,← r]
 congr 1
 push_cast
 omega
theorem ZmZ {m : Nat} (h : m≠0) : m = m / 2 ^ tz m * 2 ^ tz m:=(ZcY h).1
theorem ZEQ (F : Fm) {a b : Nat} (ha : a < 2 * F.sg) (hb : b < 2 * F.sg) : flR (fk F) ((fk F).format.div a b) = flW F (divW2 F 1 a b).1:=by
 show flR (fk F) ((((fk F).format.read a).quotient ((fk F).format.fractionBits + 2) ((fk F).format.read b)).map (fk F).format.write) = _
 rw [(ie_f F).1]
 unfold divW2 divP
 have hx : (F.ng a ^^ F.ng b) = (F.ng a != F.ng b):=by cases F.ng a <;> cases F.ng b <;> rfl
 rcases Znr F ha with ⟨ca,n,f,e⟩ | ⟨ca,e⟩ | ⟨ca,m,i,e,ev,z1⟩ <;> rcases Znr F hb with ⟨cb,n',f',e'⟩ | ⟨cb,e'⟩ | ⟨cb,m',i',e',ev',z2⟩ <;> rw [e,e']
 ·rw [if_pos (Or.inl ca),ZbI]; rfl
 ·rw [if_pos (Or.inl ca),ZbI]; rfl
 ·rw [if_pos (Or.inl ca),ZbI]; rfl
 ·rw [if_pos (Or.inr cb),ZbI]; rfl
 ·rw [if_neg (by omega),if_pos ⟨by omega,Or.inr ca⟩,ZbI]; rfl
 ·have fb:=Zgq cb
  rw [if_neg (by omega),if_neg (by omega),if_pos ca,Zcp (inf5 F _),← hx]
  simp [Ieee.Datum.quotient,Zej,flR]
 ·rw [if_pos (Or.inr cb),ZbI]; rfl
 ·have fa:=Zgq ca
  rw [if_neg (by omega),if_neg (by omega),if_neg (by omega),if_neg (by omega),if_pos (Or.inr cb),Zcp (sgn5 F _),← hx]
  simp [Ieee.Datum.quotient,ZhX,flR]
 ·have fa:=Zgq ca
  have fb:=Zgq cb
  rw [if_neg (by omega)]
  by_cases h0 : m' = 0
  ·by_cases h1 : m = 0
   ·rw [if_pos ⟨by rw [z1.2 h1,z2.2 h0],Or.inl (z1.2 h1)⟩,ZbI]
    simp [Ieee.Datum.quotient,h0,h1,flR]
   ·have ha1 : F.cls a≠1:=fun q => h1 (z1.1 q)
    rw [if_neg (by omega),if_neg fa.2,if_pos (z2.2 h0),Zcp (inf5 F _),← hx]
    simp [Ieee.Datum.quotient,h0,h1,Zej,flR]
  ·have hb1 : F.cls b≠1:=fun q => h0 (z2.1 q)
   by_cases h1 : m = 0
   ·have ha1:=z1.2 h1
    rw [if_neg (by omega),if_neg fa.2,if_neg hb1,if_pos (Or.inl ha1),Zcp (sgn5 F _),← hx]
    simp [Ieee.Datum.quotient,h0,h1,ZhX,flR]
   ·have ha1 : F.cls a≠1:=fun q => h1 (z1.1 q)
    rw [if_neg (by omega),if_neg fa.2,if_neg hb1,if_neg (by omega)]
    have hq : flR (fk F) ((Ieee.Datum.quotient (F.fr + 2) (.number (F.ng a) m i) (.number (F.ng b) m' i')).map (fk F).format.write) =
      .fl (fk F) ((fk F).format.nearest (F.ng a ^^ F.ng b) (2 * (m <<< (F.fr + 2 + m'.log2 - m.log2) / m') + (m <<< (F.fr + 2 + m'.log2 - m.log2) % m' != 0).toNat) (i - i' - (F.fr + 2 + m'.log2 - m.log2 : Nat) - 1)):=by
     simp [Ieee.Datum.quotient,h0,flR]
     rfl
    rw [hq,hx]
    generalize hmore : F.fr + 2 + m'.log2 - m.log2 = more at *
    rw [Nat.shiftLeft_eq]
    have l1:=Zpu h1
    have l2:=Zpu h0
    have hbl : F.fr + 2≤blen (m * 2 ^ more / m'):=Zte h0 (by rw [Zap h1]; omega)
    have hne : ∀ x : Nat,(x != 0) = !decide (x = 0):=fun x => by cases x <;> rfl
    rw [hne,ZlB F _ _ _ hbl]
    have hm : (mkD (F.ng a) m i).m≠0:=fun q => h1 (Zly.1 q)
    have hm' : (mkD (F.ng b) m' i').m≠0:=fun q => h0 (Zly.1 q)
    have hq2 : quoW F 1 (F.vl a) (F.vl b) = sW F 1 (F.ng a != F.ng b) (m * 2 ^ more / m') (!decide (m * 2 ^ more % m' = 0)) (i - i' - more):=by
     rw [ev,ev',Zar h1,Zar h0]
     unfold quoW
     simp only
     have s1:=ZmZ h1
     have s2:=ZmZ h0
     have hmz : m / 2 ^ tz m≠0:=fun q => by rw [q,Nat.zero_mul] at s1; exact h1 s1
     have hmz' : m' / 2 ^ tz m'≠0:=fun q => by rw [q,Nat.zero_mul] at s2; exact h0 s2
     have hN : F.fr + 2≤blen (m / 2 ^ tz m * 2 ^ quoN 64 (m / 2 ^ tz m) (m' / 2 ^ tz m') / (m' / 2 ^ tz m')):=Zte hmz' (by
      rw [Zap hmz]
      have : quoN 64 (m / 2 ^ tz m) (m' / 2 ^ tz m') = 64 + 1 + blen (m' / 2 ^ tz m') - blen (m / 2 ^ tz m):=rfl
      have:=Zsg F
      omega)
     have g:=ZDz F (F.ng a != F.ng b) (am:=m / 2 ^ tz m) (bm:=m' / 2 ^ tz m') (t:=tz m) (u:=tz m') (more:=more) (N:=quoN 64 (m / 2 ^ tz m) (m' / 2 ^ tz m')) hmz' (i + tz m) (i' + tz m') (by rw [← s1,← s2]; exact hbl) hN
     rw [← s1,← s2] at g
     rw [← g]
     congr 1
     omega
    rw [hq2]
    rw [Zcp (sW5 F _ _ _ hbl)]
theorem Zop (n : Nat) : ∀ (k r : Nat),r * r≤n→n < (r + 2 ^ k) * (r + 2 ^ k)→Ieee.Datum.rootFrom n k r * Ieee.Datum.rootFrom n k r≤n∧n < (Ieee.Datum.rootFrom n k r + 1) * (Ieee.Datum.rootFrom n k r + 1)
 | 0,r,h1,h2 => by simpa [Ieee.Datum.rootFrom] using And.intro h1 h2
 | k + 1,r,h1,h2 => by
  have e : (1 : Nat) <<< k = 2 ^ k:=Nat.one_shiftLeft k
  rw [Ieee.Datum.rootFrom]
  simp only [e]
  have hp : 2 ^ (k + 1) = 2 ^ k + 2 ^ k:=by rw [Nat.pow_succ]; omega
  split
  ·next h => exact Zop n k _ h (by rw [Nat.add_assoc,← hp]; exact h2)
  ·next h => exact Zop n k _ h1 (by omega)
theorem Zvz (n : Nat) : Ieee.Datum.rootFrom n (n.log2 / 2 + 1) 0 = isq n:=by
 have hlt : n < 2 ^ (n.log2 + 1):=Nat.lt_log2_self
 obtain ⟨h1,h2⟩:=Zop n (n.log2 / 2 + 1) 0 (by simp) (by
  rw [Nat.zero_add,← Nat.pow_add]
  exact Nat.lt_of_lt_of_le hlt (Nat.pow_le_pow_right (by decide) (by omega)))
 exact (ZFt h1 h2).symm
theorem Zvw (F : Fm) {w : Nat} (hw : w < 2 * F.sg) {s : Bool} {m : Nat} {i : Int} (h : (fk F).format.read w = .number s m i) : m < 2 ^ (F.fr + 1):=by
 obtain ⟨f1,f2,f3,f4,f5⟩:=ie_f F
 have hp:=Nat.two_pow_pos F.fr
 have he : 2 ^ (F.fr + 1) = 2 ^ F.fr + 2 ^ F.fr:=by rw [Nat.pow_succ]; omega
 unfold Ieee.Format.read at h
 simp only at h
 rw [f5,f3] at h
 split at h
 ·next q => cases h; omega
 ·split at h
  ·cases h
   have:=Nat.mod_lt (w % F.sg) hp
   omega
  ·split at h <;> cases h
theorem ZyC (F : Fm) {a : Nat} (ha : a < 2 * F.sg) : flR (fk F) ((fk F).format.sqrt a) = flW F (sqrtW F 1 a).1:=by
 show flR (fk F) ((((fk F).format.read a).root ((fk F).format.fractionBits + 2)).map (fk F).format.write) = _
 rw [(ie_f F).1]
 unfold sqrtW
 rcases Znr F ha with ⟨ca,n,f,e⟩ | ⟨ca,e⟩ | ⟨ca,m,i,e,ev,z1⟩
 ·rw [e,if_pos ca,ZbI]; rfl
 ·rw [e,if_neg (by omega),if_neg (by omega)]
  by_cases hs : F.ng a = true
  ·rw [if_pos hs,ZbI]
   simp [Ieee.Datum.root,hs,flR]
  ·rw [if_neg hs,if_pos ca,Zcp (inf5 F _)]
   simp [Ieee.Datum.root,hs,flR,Zej]
 ·have fa:=Zgq ca
  have hsm:=Zvw F ha e
  rw [e,if_neg fa.1]
  by_cases h0 : m = 0
  ·rw [if_pos (z1.2 h0),Zcp (sgn5 F _)]
   simp [Ieee.Datum.root,h0,flR,ZhX]
  ·rw [if_neg (fun q => h0 (z1.1 q))]
   by_cases hs : F.ng a = true
   ·rw [if_pos hs,ZbI]
    simp [Ieee.Datum.root,h0,hs,flR]
   ·rw [if_neg hs,if_neg fa.2]
    have hs : F.ng a = false:=by simpa using hs
    rw [hs] at ev ⊢
    generalize hD : 2 * (F.fr + 2) - m.log2 = D0
    generalize hD1 : D0 + ((i - (D0 : Int)) % 2).toNat = D
    have hq : flR (fk F) ((Ieee.Datum.root (F.fr + 2) (.number false m i)).map (fk F).format.write) =
      .fl (fk F) ((fk F).format.nearest false (2 * isq (m * 2 ^ D) + (isq (m * 2 ^ D) * isq (m * 2 ^ D) != m * 2 ^ D).toNat) ((i - (D : Nat)) / 2 - 1)):=by
     simp only [Ieee.Datum.root,h0,if_false,Bool.false_eq_true,hD,hD1,Nat.shiftLeft_eq,Zvz]
     rfl
    rw [hq]
    have hF:=ZaM F
    have hF2:=Zsg F
    have l1:=Zpu h0
    have l2 : blen m≤F.fr + 1:=Zae.2 hsm
    obtain ⟨r1,r2⟩:=Zls (m * 2 ^ D)
    have hbl : F.fr + 2≤blen (isq (m * 2 ^ D)):=by
     have hX : m * 2 ^ D≠0:=Nat.mul_ne_zero h0 (by have:=Nat.two_pow_pos D; omega)
     have:=ZjM (k:=F.fr + 1) (M:=m * 2 ^ D) (by
      have h1:=Zbo hX
      rw [Zap h0] at h1
      rw [← Nat.pow_add]
      exact Nat.le_trans (Nat.pow_le_pow_right (by decide) (by omega)) h1) r2
     omega
    have hne : ∀ x y : Nat,(x != y) = !decide (x = y):=fun x y => by
     by_cases q : x = y
     ·subst q; simp
     ·simp [q]
    rw [hne,ZlB F _ _ _ hbl]
    have hz : tz m + 1≤blen m:=by
     have s1:=ZmZ h0
     have h3 : m / 2 ^ tz m≠0:=fun q => by rw [q,Nat.zero_mul] at s1; exact h0 s1
     have h4:=Zap h3 (tz m)
     rw [← s1] at h4
     have:=ZaS h3
     omega
    have hr : rootW F 1 (F.vl a) = sW F 1 false (isq (m * 2 ^ D)) (!decide (isq (m * 2 ^ D) * isq (m * 2 ^ D) = m * 2 ^ D)) ((i - (D : Nat)) / 2):=by
     rw [ev,Zar h0]
     have s1:=ZmZ h0
     have hsh : shN (m / 2 ^ tz m) ((tz m + D : Nat) : Int) = m * 2 ^ D:=by
      unfold shN
      rw [if_pos (by omega),Int.toNat_natCast,Nat.pow_add,← Nat.mul_assoc,← s1]
     have hsb : shB (m / 2 ^ tz m) ((tz m + D : Nat) : Int) = false:=by unfold shB; rw [if_pos (by omega)]
     have g:=Zqm F 1 (m:=m / 2 ^ tz m) (t:=isq (m * 2 ^ D)) (e:=i + tz m) (n:=((tz m + D : Nat) : Int)) (c:=(i - (D : Nat)) / 2) (by
      unfold rootP; push_cast; omega) (by push_cast; omega) (by rw [hsh]; exact r1) (by rw [hsh]; exact r2) hbl false
     rw [hsh,hsb,Bool.false_or] at g
     exact g.symm
    rw [hr,Zcp (sW5 F _ _ _ hbl)]
end Go.Cv
namespace Go.Cv
variable {G : Nat→Option (List AV)} {T : Tbl} {g : Nat}
def Fm.win : Fm→Nat
 | .s => 20
 | .d => 200
def Fm.wlo : Fm→Nat
 | .s => 107
 | .d => 823
def Fm.whi : Fm→Nat
 | .s => 147
 | .d => 1223
def inW (F : Fm) (w : Nat) : Prop:=F.wlo≤F.ex w∧F.ex w≤F.whi
instance (F : Fm) (w : Nat) : Decidable (inW F w):=inferInstanceAs (Decidable (_∧_))
theorem Zez (hM : HasM g T) (F : Fm) : run G T 338 [.int .u8 F.u] = some (.tup [.int .i64 (F.win : Int),.int .i64 0]):=by
 rw [Zac G T hM.Zez]
 cases F
 ·show _ = some (AV.tup [.int .i64 20,.int .i64 0])
  simp only [Fm.u]
  repeat' (first|simp (maxSteps:=9^7) only [seval,exC,ZcF]|simp (maxSteps:=9^7) (disch:=first|with_reducible assumption|omega) only [dxB]|(simp only [kdB];split)|(simp only [kvB];split))
 ·show _ = some (AV.tup [.int .i64 200,.int .i64 0])
  simp only [Fm.u]
  repeat' (first|simp (maxSteps:=9^7) only [seval,exC,ZcF]|simp (maxSteps:=9^7) (disch:=first|with_reducible assumption|omega) only [dxB]|(simp only [kdB];split)|(simp only [kvB];split))
theorem ZoI (hM : HasM g T) {f : Int} (h : ¬ (f = 1∨f = 2)) : run G T 338 [.int .u8 f] = some (.tup [.int .i64 0,.int .i64 4]):=by
 rw [Zac G T hM.Zez]
 have h1 : ¬ f = 1:=fun q => h (Or.inl q)
 have h2 : ¬ f = 2:=fun q => h (Or.inr q)
 repeat' (first|simp (maxSteps:=9^7) only [seval,exC,ZcF,h1,h2]|simp (maxSteps:=9^7) (disch:=first|with_reducible assumption|omega) only [dxB]|(simp only [kdB];split)|(simp only [kvB];split))
theorem ZjI (hM : HasM g T) (F : Fm) : run G T 340 [.int .u8 F.u] = some (.int .i64 (F.win : Int)):=by
 rw [Zac G T hM.ZjI]
 cases F
 ·show _ = some (AV.int .i64 20)
  simp only [Fm.u]
  repeat' (first|simp (maxSteps:=9^7) only [seval,exC,Zde]|simp (maxSteps:=9^7) (disch:=first|with_reducible assumption|omega) only [dxB]|(simp only [kdB];split)|(simp only [kvB];split))
 ·show _ = some (AV.int .i64 200)
  simp only [Fm.u]
  repeat' (first|simp (maxSteps:=9^7) only [seval,exC,Zde]|simp (maxSteps:=9^7) (disch:=first|with_reducible assumption|omega) only [dxB]|(simp only [kdB];split)|(simp only [kvB];split))
theorem ZFa (F : Fm) : F.ex (F.inf false) = F.most:=by cases F <;> decide
theorem Zhq (e : Env) (h : Heap) : evL G T Zjc e h = kS G T (evL G T ZaW (keepE [0,6,11,13,48,49] e) h) Zjc:=Zaf G T rfl e h
theorem Zky (x y : AV) : indexV false 2 1 (.agg [x,y]) (.int .i64 0) = some x:=rfl
theorem Zkz (x y : AV) : indexV false 2 1 (.agg [x,y]) (.int .i64 1) = some y:=rfl
theorem f311 (x y z : AV) : fieldA false 1 1 (.agg [x,y,z]) = some y:=rfl
theorem Zwx {r : Bool} {p : Prop} (h : r = true↔p) : (p→r = true)∧(¬ p→r = false):=⟨h.2,fun q => by cases r; rfl; exact absurd (h.1 rfl) q⟩
set_option maxHeartbeats 4000000 in
theorem ZpJ (J : Al G T g) (hM : HasM g T) (F : Fm) {a b : Nat} (ha : a < 2 * F.sg) (hb : b < 2 * F.sg) : run G T 339 [.int .u8 F.u,zA a b] = some (.tup [.bool (decide (inW F a∧inW F b)),.int .i64 0]):=by
 have hr : decide (inW F a∧inW F b) = true↔((F.wlo≤F.ex a∧F.ex a≤F.whi)∧F.wlo≤F.ex b∧F.ex b≤F.whi):=decide_eq_true_iff
 generalize decide (inW F a∧inW F b) = r at *
 have hr:=Zwx hr
 rw [Zac G T hM.ZpJ]
 have w1:=Zez (G:=G) hM F
 have p1:=ZlE J F (ZbS ha) (ZbS hb)
 rw [if_pos ⟨ha,hb⟩] at p1
 have i1:=ZiW J F (n:=false)
 have s0:=ZeD J F (w:=F.inf false) (by cases F <;> decide)
 rw [ZFa] at s0
 have s1:=ZeD J F ha
 have s2:=ZeD J F hb
 generalize F.inf false = inf at *
 generalize F.ng inf = n0 at *
 generalize F.fc inf = c0 at *
 generalize F.ng a = n1 at *
 generalize F.fc a = c1 at *
 generalize F.ng b = n2 at *
 generalize F.fc b = c2 at *
 generalize F.ex a = x at *
 generalize F.ex b = y at *
 have hm : F.most = 255∧F.win = 20∧F.wlo = 107∧F.whi = 147∨F.most = 2047∧F.win = 200∧F.wlo = 823∧F.whi = 1223:=by cases F <;> decide
 clear ha hb
 generalize F.most = mo at *
 generalize F.win = wi at *
 generalize F.wlo = lo at *
 generalize F.whi = hi at *
 generalize F.u = fu at *
 rcases hm with ⟨rfl,rfl,rfl,rfl⟩ | ⟨rfl,rfl,rfl,rfl⟩
 ·by_cases h1 : (x : Int) < 107
  ·obtain rfl:=hr.2 (by omega)
   simp only [zA,fldA,Int.cast_ofNat_Int] at *
   repeat' (first|simp (maxSteps:=9^7) only [seval,exC,ZbB,Zhq,ZaW,Zky,Zkz,w1,p1,i1,s0,s1,h1]|simp (maxSteps:=9^7) (disch:=first|with_reducible assumption|omega) only [dxB]|(simp only [kdB];split)|(simp only [kvB];split))
  ·by_cases h2 : (147 : Int) < x
   ·obtain rfl:=hr.2 (by omega)
    simp only [zA,fldA,Int.cast_ofNat_Int] at *
    repeat' (first|simp (maxSteps:=9^7) only [seval,exC,ZbB,Zhq,ZaW,Zky,Zkz,w1,p1,i1,s0,s1,h1,h2]|simp (maxSteps:=9^7) (disch:=first|with_reducible assumption|omega) only [dxB]|(simp only [kdB];split)|(simp only [kvB];split))
   ·by_cases h3 : (y : Int) < 107
    ·obtain rfl:=hr.2 (by omega)
     simp only [zA,fldA,Int.cast_ofNat_Int] at *
     repeat' (first|simp (maxSteps:=9^7) only [seval,exC,ZbB,Zhq,ZaW,Zky,Zkz,w1,p1,i1,s0,s1,s2,h1,h2,h3]|simp (maxSteps:=9^7) (disch:=first|with_reducible assumption|omega) only [dxB]|(simp only [kdB];split)|(simp only [kvB];split))
    ·by_cases h4 : (147 : Int) < y
     ·obtain rfl:=hr.2 (by omega)
      simp only [zA,fldA,Int.cast_ofNat_Int] at *
      repeat' (first|simp (maxSteps:=9^7) only [seval,exC,ZbB,Zhq,ZaW,Zky,Zkz,w1,p1,i1,s0,s1,s2,h1,h2,h3,h4]|simp (maxSteps:=9^7) (disch:=first|with_reducible assumption|omega) only [dxB]|(simp only [kdB];split)|(simp only [kvB];split))
     ·obtain rfl:=hr.1 (by omega)
      simp only [zA,fldA,Int.cast_ofNat_Int] at *
      repeat' (first|simp (maxSteps:=9^7) only [seval,exC,ZbB,Zhq,ZaW,Zky,Zkz,w1,p1,i1,s0,s1,s2,h1,h2,h3,h4]|simp (maxSteps:=9^7) (disch:=first|with_reducible assumption|omega) only [dxB]|(simp only [kdB];split)|(simp only [kvB];split))
 ·by_cases h1 : (x : Int) < 823
  ·obtain rfl:=hr.2 (by omega)
   simp only [zA,fldA,Int.cast_ofNat_Int] at *
   repeat' (first|simp (maxSteps:=9^7) only [seval,exC,ZbB,Zhq,ZaW,Zky,Zkz,w1,p1,i1,s0,s1,h1]|simp (maxSteps:=9^7) (disch:=first|with_reducible assumption|omega) only [dxB]|(simp only [kdB];split)|(simp only [kvB];split))
  ·by_cases h2 : (1223 : Int) < x
   ·obtain rfl:=hr.2 (by omega)
    simp only [zA,fldA,Int.cast_ofNat_Int] at *
    repeat' (first|simp (maxSteps:=9^7) only [seval,exC,ZbB,Zhq,ZaW,Zky,Zkz,w1,p1,i1,s0,s1,h1,h2]|simp (maxSteps:=9^7) (disch:=first|with_reducible assumption|omega) only [dxB]|(simp only [kdB];split)|(simp only [kvB];split))
   ·by_cases h3 : (y : Int) < 823
    ·obtain rfl:=hr.2 (by omega)
     simp only [zA,fldA,Int.cast_ofNat_Int] at *
     repeat' (first|simp (maxSteps:=9^7) only [seval,exC,ZbB,Zhq,ZaW,Zky,Zkz,w1,p1,i1,s0,s1,s2,h1,h2,h3]|simp (maxSteps:=9^7) (disch:=first|with_reducible assumption|omega) only [dxB]|(simp only [kdB];split)|(simp only [kvB];split))
    ·by_cases h4 : (1223 : Int) < y
     ·obtain rfl:=hr.2 (by omega)
      simp only [zA,fldA,Int.cast_ofNat_Int] at *
      repeat' (first|simp (maxSteps:=9^7) only [seval,exC,ZbB,Zhq,ZaW,Zky,Zkz,w1,p1,i1,s0,s1,s2,h1,h2,h3,h4]|simp (maxSteps:=9^7) (disch:=first|with_reducible assumption|omega) only [dxB]|(simp only [kdB];split)|(simp only [kvB];split))
     ·obtain rfl:=hr.1 (by omega)
      simp only [zA,fldA,Int.cast_ofNat_Int] at *
      repeat' (first|simp (maxSteps:=9^7) only [seval,exC,ZbB,Zhq,ZaW,Zky,Zkz,w1,p1,i1,s0,s1,s2,h1,h2,h3,h4]|simp (maxSteps:=9^7) (disch:=first|with_reducible assumption|omega) only [dxB]|(simp only [kdB];split)|(simp only [kvB];split))
theorem Zsf (J : Al G T g) (hM : HasM g T) (F : Fm) {a b : Nat} (ha : a < 18446744073709551616) (hb : b < 18446744073709551616) (h : ¬ (a < 2 * F.sg∧b < 2 * F.sg)) : run G T 339 [.int .u8 F.u,zA a b] = some (.tup [.bool false,.int .i64 6]):=by
 rw [Zac G T hM.ZpJ]
 have w1:=Zez (G:=G) hM F
 have p1:=ZlE J F ha hb
 rw [if_neg h] at p1
 generalize (F.win : Int) = wi at *
 simp only [zA] at *
 repeat' (first|simp (maxSteps:=9^7) only [seval,exC,ZbB,w1,p1]|simp (maxSteps:=9^7) (disch:=first|with_reducible assumption|omega) only [dxB]|(simp only [kdB];split)|(simp only [kvB];split))
theorem ZmX (J : Al G T g) (hM : HasM g T) (F : Fm) {w : Nat} (hw : w < 18446744073709551616) : run G T 364 [.int .u8 F.u,.int .u64 (w : Int)] = some (.bool (decide (inW F w))):=by
 have hr : decide (inW F w) = true↔(F.wlo≤F.ex w∧F.ex w≤F.whi):=decide_eq_true_iff
 generalize decide (inW F w) = r at *
 have hr:=Zwx hr
 rw [Zac G T hM.ZmX]
 have s1:=Zds J F hw
 have c1:=ZeC J F hw
 have m1:=ZfZ J F
 have w1:=ZjI (G:=G) hM F
 have hc : F.cls w = 3↔(F.ex w≠0∧F.ex w < F.most):=by
  unfold Fm.cls
  by_cases h0 : F.ex w = 0
  ·rw [if_pos h0]; split <;> simp [h0]
  ·rw [if_neg h0]
   by_cases h1 : F.ex w < F.most
   ·rw [if_pos h1]; simp [h0,h1]
   ·rw [if_neg h1]; split <;> simp [h1]
 generalize F.ng w = n1 at *
 generalize F.fc w = c1' at *
 generalize F.cls w = cl at *
 generalize F.ex w = x at *
 have hm : F.most = 255∧F.win = 20∧F.wlo = 107∧F.whi = 147∨F.most = 2047∧F.win = 200∧F.wlo = 823∧F.whi = 1223:=by cases F <;> decide
 clear hw
 generalize F.most = mo at *
 generalize F.win = wi at *
 generalize F.wlo = lo at *
 generalize F.whi = hi at *
 generalize F.u = fu at *
 rcases hm with ⟨rfl,rfl,rfl,rfl⟩ | ⟨rfl,rfl,rfl,rfl⟩
 ·have e1 : IntKind.i64.wrap ((x : Int) - 127) = (x : Int) - 127∨9000 < x:=by
   by_cases h : 9000 < x
   ·exact Or.inr h
   ·exact Or.inl (Zad (by omega))
  by_cases h3 : cl = 3
  ·have:=hc.1 h3
   have e1 : IntKind.i64.wrap ((x : Int) - 127) = (x : Int) - 127:=Zad (by omega)
   by_cases h1 : -20≤(x : Int) - 127
   ·by_cases h2 : (x : Int) - 127≤20
    ·obtain rfl:=hr.1 (by omega)
     simp only [fldA,Int.cast_ofNat_Int] at *
     repeat' (first|simp (maxSteps:=9^7) only [seval,exC,ZbP,f311,s1,c1,m1,w1,e1,h3,h1,h2]|simp (maxSteps:=9^7) (disch:=first|with_reducible assumption|omega) only [dxB]|(simp only [kdB];split)|(simp only [kvB];split))
    ·obtain rfl:=hr.2 (by omega)
     simp only [fldA,Int.cast_ofNat_Int] at *
     repeat' (first|simp (maxSteps:=9^7) only [seval,exC,ZbP,f311,s1,c1,m1,w1,e1,h3,h1,h2]|simp (maxSteps:=9^7) (disch:=first|with_reducible assumption|omega) only [dxB]|(simp only [kdB];split)|(simp only [kvB];split))
   ·obtain rfl:=hr.2 (by omega)
    simp only [fldA,Int.cast_ofNat_Int] at *
    repeat' (first|simp (maxSteps:=9^7) only [seval,exC,ZbP,f311,s1,c1,m1,w1,e1,h3,h1]|simp (maxSteps:=9^7) (disch:=first|with_reducible assumption|omega) only [dxB]|(simp only [kdB];split)|(simp only [kvB];split))
  ·obtain rfl:=hr.2 (fun q => h3 (hc.2 (by omega)))
   simp only [fldA,Int.cast_ofNat_Int] at *
   repeat' (first|simp (maxSteps:=9^7) only [seval,exC,ZbP,f311,s1,c1,m1,w1,h3]|simp (maxSteps:=9^7) (disch:=first|with_reducible assumption|omega) only [dxB]|(simp only [kdB];split)|(simp only [kvB];split))
 ·have e1 : IntKind.i64.wrap ((x : Int) - 1023) = (x : Int) - 1023∨9000 < x:=by
   by_cases h : 9000 < x
   ·exact Or.inr h
   ·exact Or.inl (Zad (by omega))
  by_cases h3 : cl = 3
  ·have:=hc.1 h3
   have e1 : IntKind.i64.wrap ((x : Int) - 1023) = (x : Int) - 1023:=Zad (by omega)
   by_cases h1 : -200≤(x : Int) - 1023
   ·by_cases h2 : (x : Int) - 1023≤200
    ·obtain rfl:=hr.1 (by omega)
     simp only [fldA,Int.cast_ofNat_Int] at *
     repeat' (first|simp (maxSteps:=9^7) only [seval,exC,ZbP,f311,s1,c1,m1,w1,e1,h3,h1,h2]|simp (maxSteps:=9^7) (disch:=first|with_reducible assumption|omega) only [dxB]|(simp only [kdB];split)|(simp only [kvB];split))
    ·obtain rfl:=hr.2 (by omega)
     simp only [fldA,Int.cast_ofNat_Int] at *
     repeat' (first|simp (maxSteps:=9^7) only [seval,exC,ZbP,f311,s1,c1,m1,w1,e1,h3,h1,h2]|simp (maxSteps:=9^7) (disch:=first|with_reducible assumption|omega) only [dxB]|(simp only [kdB];split)|(simp only [kvB];split))
   ·obtain rfl:=hr.2 (by omega)
    simp only [fldA,Int.cast_ofNat_Int] at *
    repeat' (first|simp (maxSteps:=9^7) only [seval,exC,ZbP,f311,s1,c1,m1,w1,e1,h3,h1]|simp (maxSteps:=9^7) (disch:=first|with_reducible assumption|omega) only [dxB]|(simp only [kdB];split)|(simp only [kvB];split))
  ·obtain rfl:=hr.2 (fun q => h3 (hc.2 (by omega)))
   simp only [fldA,Int.cast_ofNat_Int] at *
   repeat' (first|simp (maxSteps:=9^7) only [seval,exC,ZbP,f311,s1,c1,m1,w1,h3]|simp (maxSteps:=9^7) (disch:=first|with_reducible assumption|omega) only [dxB]|(simp only [kdB];split)|(simp only [kvB];split))
theorem Zhb (J : Al G T g) (hM : HasM g T) (F : Fm) {a b : Nat} (ha : a < 18446744073709551616) (hb : b < 18446744073709551616) : run G T 332 [.int .u8 F.u,zA a b] = some (.bool (decide (inW F a∧inW F b))):=by
 rw [Zac G T hM.Zhb]
 have h1:=ZmX J hM F ha
 have h2:=ZmX J hM F hb
 by_cases ca : inW F a
 ·rw [decide_eq_true ca] at h1
  by_cases cb : inW F b
  ·rw [decide_eq_true cb] at h2
   rw [decide_eq_true ⟨ca,cb⟩]
   simp only [zA] at *
   repeat' (first|simp (maxSteps:=9^7) only [seval,exC,ZfW,h1,h2]|simp (maxSteps:=9^7) (disch:=first|with_reducible assumption|omega) only [dxB]|(simp only [kdB];split)|(simp only [kvB];split))
  ·rw [decide_eq_false cb] at h2
   rw [decide_eq_false (fun q => cb q.2)]
   simp only [zA] at *
   repeat' (first|simp (maxSteps:=9^7) only [seval,exC,ZfW,h1,h2]|simp (maxSteps:=9^7) (disch:=first|with_reducible assumption|omega) only [dxB]|(simp only [kdB];split)|(simp only [kvB];split))
 ·rw [decide_eq_false ca] at h1
  rw [decide_eq_false (fun q => ca q.1)]
  simp only [zA] at *
  repeat' (first|simp (maxSteps:=9^7) only [seval,exC,ZfW,h1]|simp (maxSteps:=9^7) (disch:=first|with_reducible assumption|omega) only [dxB]|(simp only [kdB];split)|(simp only [kvB];split))
end Go.Cv
namespace Go.Cv
variable {G : Nat→Option (List AV)} {T : Tbl} {g : Nat}
def nckA : AV→Option AV
 | .ptr b o => some (.ptr b o)
 | .iptr cs o => some (.iptr cs o)
 | .gptr g o => some (.gptr g o)
 | _ => none
def eqnA (neg : Bool) : AV→Option AV
 | .np => some (.bool !neg)
 | .ptr _ _ => some (.bool neg)
 | .iptr _ _ => some (.bool neg)
 | .gptr _ _ => some (.bool neg)
 | _ => none
section
variable (F : CallF) (d : Option Nat) (os : List IOper) (e : Env) (h : Heap)
theorem ZCk (x : IOpd) : evOps G F (⟨d,.nck x,none⟩ :: os) e h = kV G F (nckA (opd e x)) d os e h:=by
 rw [Zbt G F d _ os e h rfl (nckA (opd e x))]
 simp only [evQ]; cases opd e x <;> rfl
theorem ZCf (neg : Bool) (x : IOpd) : evOps G F (⟨d,.eqn neg x,none⟩ :: os) e h = kV G F (eqnA neg (opd e x)) d os e h:=by
 rw [Zbt G F d _ os e h rfl (eqnA neg (opd e x))]
 simp only [evQ]; cases opd e x <;> rfl
theorem ZyE (op : BinOp) (k : FloatKind) (x y : IOpd) : evOps G F (⟨d,.fbin op k x y,none⟩ :: os) e h = kV G F (evFl op k (opd e x) (opd e y)) d os e h:=Zbt G F d _ os e h rfl _ rfl
theorem ZCh (s k : FloatKind) (x : IOpd) : evOps G F (⟨d,.fcv s k x,none⟩ :: os) e h = kV G F (evFcv s k (opd e x)) d os e h:=Zbt G F d _ os e h rfl _ rfl
end
theorem ZFT (b o : Nat) : nckA (.ptr b o) = some (.ptr b o):=rfl
theorem ZAR : eqnA false .np = some (.bool true):=rfl
theorem ZEZ (b o : Nat) : eqnA false (.ptr b o) = some (.bool false):=rfl
theorem ZGz (g : Nat→Nat→Nat→Nat→Option AV) : snapA g .np = some .np:=by simp only [snapA]
theorem ZGy (g : Nat→Nat→Nat→Nat→Option AV) : snapA g .nf = some .nf:=by simp only [snapA]
theorem ZBV (g : Nat→Nat→Nat→Nat→Option AV) (k : FloatKind) : snapA g (.nan k) = some (.nan k):=by simp only [snapA]
theorem ZBc (h : Mem) (r : AV) (args : List AV) : frz h r (.np :: args) = frz h r args:=by simp [frz,reachL,reachA]
theorem ZBb (h : Mem) (r : AV) (args : List AV) : frz h r (.nf :: args) = frz h r args:=by simp [frz,reachL,reachA]
theorem Zxf (h : Mem) (r : AV) (k : FloatKind) (args : List AV) : frz h r (.nan k :: args) = frz h r args:=by simp [frz,reachL,reachA]
theorem ZBB : okCell .nf = true:=rfl
theorem ZEG : cellsA .nf = [.nf]:=rfl
theorem ZEH : cellsA .np = [.np]:=rfl
theorem ZFj (k : FloatKind) (a b : Nat) : evFl .mul k (.fl k a) (.fl k b) = some (flR k (k.format.mul a b)):=if_pos ⟨rfl,rfl⟩
theorem ZFi (k : FloatKind) (a b : Nat) : evFl .add k (.fl k a) (.fl k b) = some (flR k (k.format.add a b)):=if_pos ⟨rfl,rfl⟩
theorem ZFl (k : FloatKind) (a b : Nat) : evFl .sub k (.fl k a) (.fl k b) = some (flR k (k.format.sub a b)):=if_pos ⟨rfl,rfl⟩
theorem ZFk (k : FloatKind) (a b : Nat) : evFl .quo k (.fl k a) (.fl k b) = some (flR k (k.format.div a b)):=if_pos ⟨rfl,rfl⟩
theorem fcB : type_of% (And.intro (And.intro (And.intro @ZCk @ZCf) (And.intro @ZyE @ZCh)) (And.intro (And.intro (And.intro @ZFT @ZAR) (And.intro @ZEZ @ZGz)) (And.intro (And.intro (And.intro @ZGy @ZBV) (And.intro @ZBc @ZBb)) (And.intro (And.intro @Zxf @ZBB) (And.intro @ZEG @ZEH))))):=And.intro (And.intro (And.intro @ZCk @ZCf) (And.intro @ZyE @ZCh)) (And.intro (And.intro (And.intro @ZFT @ZAR) (And.intro @ZEZ @ZGz)) (And.intro (And.intro (And.intro @ZGy @ZBV) (And.intro @ZBc @ZBb)) (And.intro (And.intro @Zxf @ZBB) (And.intro @ZEG @ZEH))))
section
variable (hL : HasL g T)
 include hL
theorem ZoU (w : Nat) : run G T 373 [.int .u64 (w : Int)] = some (.fl .f64 w):=by
 rw [Zac G T hL.math_Float64frombits]
 show kE G _ (evL G T (.prim .of64) _ _) = _
 rw [ZiD]; rfl
theorem ZpI (w : Nat) : run G T 374 [.fl .f64 w] = some (.int .u64 (w : Int)):=by
 rw [Zac G T hL.math_Float64bits]
 show kE G _ (evL G T (.prim .b64) _ _) = _
 rw [ZiD]; rfl
theorem ZwZ (w : Nat) : run G T 370 [.int .u32 (w : Int)] = some (.fl .f32 w):=by
 rw [Zac G T hL.math_Float32frombits]
 show kE G _ (evL G T (.prim .of32) _ _) = _
 rw [ZiD]; rfl
theorem ZpH (w : Nat) : run G T 371 [.fl .f32 w] = some (.int .u32 (w : Int)):=by
 rw [Zac G T hL.math_Float32bits]
 show kE G _ (evL G T (.prim .b32) _ _) = _
 rw [ZiD]; rfl
theorem ZFM (w : Nat) : run G T 392 [.fl .f64 w] = some (flR .f64 (FloatKind.f64.format.sqrt w)):=by
 rw [Zac G T hL.math_sqrt]
 show kE G _ (evL G T (.prim .sqrt) _ _) = _
 rw [ZiD]
 show kE G _ (some (Ex.norm,putE (some 9) (flR .f64 (FloatKind.f64.format.sqrt w)) (numE 0 [AV.fl FloatKind.f64 w]),Heap.nil)) = _
 cases FloatKind.f64.format.sqrt w <;> rfl
end
theorem Zlw (hL : HasL g T) (hM : HasM g T) (w : Nat) : run G T 372 [.fl .f64 w] = some (flR .f64 (FloatKind.f64.format.sqrt w)):=by
 rw [Zac G T hM.Zlw]
 have h1:=ZFM (G:=G) hL w
 have h2 : ∀ g,snapA g (flR .f64 (FloatKind.f64.format.sqrt w)) = some (flR .f64 (FloatKind.f64.format.sqrt w)):=by intro g; cases FloatKind.f64.format.sqrt w <;> simp only [flR,snapA]
 generalize flR .f64 (FloatKind.f64.format.sqrt w) = r at *
 repeat' (first|simp (maxSteps:=9^7) only [seval,exC,Zie,h1,h2]|simp (maxSteps:=9^7) (disch:=first|with_reducible assumption|omega) only [dxB]|(simp only [kdB];split)|(simp only [kvB];split))
theorem ZEt (hL : HasL g T) {bs : List Blk} {f : List Nat} {b off : Nat} {n : Int} (h : rdBlk (Heap.mem ⟨bs,f⟩) b off 1 = some [.int .u64 n]) :
  kJ G Zbj.res (evL G T Zbj.body [(0,.ptr b off)] ⟨bs,f⟩) = some (.int .u64 n,⟨bs,f⟩):=by
 show kJ G _ (evL G T (.prim .ald) _ _) = _
 rw [ZiD,evPrim,h]; rfl
theorem ZCD (hL : HasL g T) {bs : List Blk} {f : List Nat} {b off : Nat} {n d : Int} {h' : Heap} (h : rdBlk (Heap.mem ⟨bs,f⟩) b off 1 = some [.int .u64 n]) (hw : wrBlk ⟨bs,f⟩ b off [.int .u64 (IntKind.u64.wrap (n + d))] = some h') :
  kJ G Zbs.res (evL G T Zbs.body [(0,.ptr b off),(1,.int .u64 d)] ⟨bs,f⟩) = some (.int .u64 (IntKind.u64.wrap (n + d)),h'):=by
 show kJ G _ (evL G T (.prim .aadd) _ _) = _
 rw [ZiD,evPrim,h]
 simp only [hw]; rfl
def engB (f : Int) (n : Nat) : Blk:=⟨[.int .u8 f,.int .u64 (n : Int)],false⟩
theorem Zsd {bs : List Blk} {k n : Nat} {f : Int} (h : bs[k]? = some (engB f n)) : rdAt G (Heap.mem ⟨bs,[]⟩) 1 (.ptr k 0) = some [.int .u8 f]:=by
 rw [Zyd,h]; rfl
theorem ZwP {bs : List Blk} {k n : Nat} {f : Int} (h : bs[k]? = some (engB f n)) : rdBlk (Heap.mem ⟨bs,[]⟩) k 1 1 = some [.int .u64 (n : Int)]:=by
 rw [Zod,h]; rfl
theorem ZEW {bs : List Blk} {k n m : Nat} {f : Int} (h : bs[k]? = some (engB f n)) : wrBlk ⟨bs,[]⟩ k 1 [.int .u64 (m : Int)] = some ⟨bs.set k (engB f m),[]⟩:=by
 unfold wrBlk
 simp only [h,engB]
 rfl
theorem ZzC (hL : HasL g T) (hM : HasM g T) {bs : List Blk} {k n : Nat} {f : Int} (h : bs[k]? = some (engB f n)) :
  kJ G Zay.res (evL G T Zay.body [(0,.ptr k 1)] ⟨bs,[]⟩) = some (.int .u64 (n : Int),⟨bs,[]⟩):=by
 have h1:=ZEt (G:=G) hL (ZwP h)
 repeat' (first|simp (maxSteps:=9^7) only [seval,exC,Zay,fcB,Zaw G T hL.sync_atomic_LoadUint64,ZcX,h1]|simp (maxSteps:=9^7) (disch:=first|with_reducible assumption|omega) only [dxB]|(simp only [kdB];split)|(simp only [kvB];split))
theorem ZCX (hL : HasL g T) (hM : HasM g T) {bs : List Blk} {k n : Nat} {f : Int} (h : bs[k]? = some (engB f n)) (hn : n < 1000000) :
  kJ G Zat.res (evL G T Zat.body [(0,.ptr k 1),(1,.int .u64 1)] ⟨bs,[]⟩) = some (.int .u64 ((n + 1 : Nat) : Int),⟨bs.set k (engB f (n + 1)),[]⟩):=by
 have w : IntKind.u64.wrap ((n : Int) + 1) = ((n + 1 : Nat) : Int):=by rw [Zbx]; omega
 have h1:=ZCD (G:=G) (d:=1) hL (ZwP h) (by rw [w]; exact ZEW h)
 rw [w] at h1
 repeat' (first|simp (maxSteps:=9^7) only [seval,exC,Zat,fcB,Zaw G T hL.sync_atomic_AddUint64,ZcX,h1]|simp (maxSteps:=9^7) (disch:=first|with_reducible assumption|omega) only [dxB]|(simp only [kdB];split)|(simp only [kvB];split))
theorem Zdf (hL : HasL g T) (hM : HasM g T) {bs : List Blk} {k n : Nat} {f : Int} (h : bs[k]? = some (engB f n)) :
  kJ G ZaG.res (evL G T ZaG.body [(0,.ptr k 0)] ⟨bs,[]⟩) = some (.int .u64 (n : Int),⟨bs,[]⟩):=by
 have h1:=ZzC (G:=G) hL hM h
 repeat' (first|simp (maxSteps:=9^7) only [seval,exC,ZaG,fcB,Zaw G T hM.sync_atomic_Uint64_Load,ZcX,h1]|simp (maxSteps:=9^7) (disch:=first|with_reducible assumption|omega) only [dxB]|(simp only [kdB];split)|(simp only [kvB];split))
theorem ZpA (hM : HasM g T) (F : Fm) {bs : List Blk} :
  kJ G ZcE.res (evL G T ZcE.body [(0,.int .u8 F.u)] ⟨bs,[]⟩) = some (.tup [.ptr bs.length 0,.int .i64 0],⟨bs ++ [engB F.u 0],[]⟩):=by
 have h1:=Zez (G:=G) hM F
 generalize (F.win : Int) = w at *
 repeat' (first|simp (maxSteps:=9^7) only [seval,exC,ZcE,fcB,h1,engB]|simp (maxSteps:=9^7) (disch:=first|with_reducible assumption|omega) only [dxB]|(simp only [kdB];split)|(simp only [kvB];split))
theorem ZoT (hM : HasM g T) {f : Int} (h : ¬ (f = 1∨f = 2)) {bs : List Blk} :
  kJ G ZcE.res (evL G T ZcE.body [(0,.int .u8 f)] ⟨bs,[]⟩) = some (.tup [.np,.int .i64 4],⟨bs,[]⟩):=by
 have h1:=ZoI (G:=G) hM h
 repeat' (first|simp (maxSteps:=9^7) only [seval,exC,ZcE,fcB,h1]|simp (maxSteps:=9^7) (disch:=first|with_reducible assumption|omega) only [dxB]|(simp only [kdB];split)|(simp only [kvB];split))
end Go.Cv
namespace Go.Cv
variable {G : Nat→Option (List AV)} {T : Tbl} {g : Nat}
instance (F : Fm) (a : Nat × Nat) : Decidable (Zw F a):=inferInstanceAs (Decidable (_∧_))
instance (F : Fm) (l : List (Nat × Nat)) : Decidable (Zws F l):=inferInstanceAs (Decidable (∀ c ∈ l,Zw F c))
def inZ (F : Fm) (a : Nat × Nat) : Prop:=inW F a.1∧inW F a.2
instance (F : Fm) (a : Nat × Nat) : Decidable (inZ F a):=inferInstanceAs (Decidable (_∧_))
def inZs (F : Fm) (l : List (Nat × Nat)) : Prop:=∀ c ∈ l,inZ F c
instance (F : Fm) (l : List (Nat × Nat)) : Decidable (inZs F l):=inferInstanceAs (Decidable (∀ c ∈ l,inZ F c))
theorem Zjs {F : Fm} {a : Nat × Nat} {l : List (Nat × Nat)} : inZs F (a :: l)↔inZ F a∧inZs F l:=List.forall_mem_cons
theorem ZmO {F : Fm} : inZs F []:=by intro c hc; cases hc
theorem Zsv (e : Env) (h : Heap) : evL G T Zas e h = kS G T (evL G T ZaP (keepE [0,6,13,14,15] e) h) Zas:=Zaf G T rfl e h
def neE (k j n : Nat) (all : Bool) (i : Nat) : Env:=[(0,.ptr k 0),(6,.bool all),(13,.own j 0 n 2),(14,.int .i64 (n : Int)),(15,.int .i64 (i : Int))]
def zblk (a : Nat × Nat) : Blk:=⟨[.int .u64 (a.1 : Int),.int .u64 (a.2 : Int)],false⟩
theorem Ztp (J : Al G T g) (hM : HasM g T) (F : Fm) {l : List (Nat × Nat)} {k j i n : Nat} {all : Bool} {bs : List Blk} (hl : l.length≤1000) (hi : i < l.length) (hw : Zw F (zc l i)) (hk : bs[k]? = some (engB F.u n)) (hj : bs[j]? = some ⟨zcells l,false⟩) :
  evL G T Zas (neE k j l.length all i) ⟨bs,[]⟩ = evL G T Zas (neE k j l.length (all && decide (inZ F (zc l i))) (i + 1)) ⟨bs ++ [zblk (zc l i)],[]⟩:=by
 have io:=ZBe (k:=j) (n:=l.length) (i:=i) hi
 have ro:=ZBL (G:=G) (f:=[]) (w:=[]) hi (by rw [List.append_nil]; exact hj)
 have r0 : rdAt G (Heap.mem ⟨bs ++ [zblk (zc l i)],[]⟩) 1 (.ptr k 0) = some [.int .u8 F.u]:=Zsd (n:=n) (by rw [List.getElem?_append_left (List.getElem?_eq_some_iff.1 hk).1]; exact hk)
 have hi' : (i : Int) < (l.length : Int):=by omega
 have w1 : IntKind.i64.wrap ((i : Int) + 1) = ((i + 1 : Nat) : Int):=by rw [Zad (by omega)]; rfl
 have f1:=ZpJ J hM F hw.1 hw.2
 have e1 : decide (inW F (zc l i).1∧inW F (zc l i).2) = decide (inZ F (zc l i)):=rfl
 rw [e1] at f1
 generalize decide (inZ F (zc l i)) = r at *
 rw [Zsv]
 unfold zblk at *
 generalize zc l i = a at *
 unfold neE
 generalize F.u = fu at *
 simp only [zA] at *
 cases all
 ·repeat' (first|simp (maxSteps:=9^7) only [seval,exC,ZaP,fcB,gaB,io,ro,r0,hi',f1,w1,Bool.false_and]|simp (maxSteps:=9^7) (disch:=first|with_reducible assumption|omega) only [dxB]|(simp only [kdB];split)|(simp only [kvB];split))
 ·repeat' (first|simp (maxSteps:=9^7) only [seval,exC,ZaP,fcB,gaB,io,ro,r0,hi',f1,w1,Bool.false_and]|simp (maxSteps:=9^7) (disch:=first|with_reducible assumption|omega) only [dxB]|(simp only [kdB];split)|(simp only [kvB];split))
theorem ZCY (J : Al G T g) (hM : HasM g T) (F : Fm) {l : List (Nat × Nat)} {k j i n : Nat} {all : Bool} {bs : List Blk} (hl : l.length≤1000) (hi : i < l.length) (h64 : (zc l i).1 < 18446744073709551616∧(zc l i).2 < 18446744073709551616) (hw : ¬ Zw F (zc l i)) (hk : bs[k]? = some (engB F.u n)) (hj : bs[j]? = some ⟨zcells l,false⟩) :
  evL G T Zas (neE k j l.length all i) ⟨bs,[]⟩ = some (.ret,[(4,.bool false),(5,.int .i64 6)],⟨bs ++ [zblk (zc l i)],[]⟩):=by
 have io:=ZBe (k:=j) (n:=l.length) (i:=i) hi
 have ro:=ZBL (G:=G) (f:=[]) (w:=[]) hi (by rw [List.append_nil]; exact hj)
 have r0 : rdAt G (Heap.mem ⟨bs ++ [zblk (zc l i)],[]⟩) 1 (.ptr k 0) = some [.int .u8 F.u]:=Zsd (n:=n) (by rw [List.getElem?_append_left (List.getElem?_eq_some_iff.1 hk).1]; exact hk)
 have hi' : (i : Int) < (l.length : Int):=by omega
 have f1:=Zsf J hM F h64.1 h64.2 hw
 rw [Zsv]
 unfold zblk at *
 generalize zc l i = a at *
 unfold neE
 generalize F.u = fu at *
 simp only [zA] at *
 repeat' (first|simp (maxSteps:=9^7) only [seval,exC,ZaP,fcB,gaB,io,ro,r0,hi',f1]|simp (maxSteps:=9^7) (disch:=first|with_reducible assumption|omega) only [dxB]|(simp only [kdB];split)|(simp only [kvB];split))
theorem ZwO {k j n i : Nat} {all : Bool} {bs : List Blk} (h : n≤i) :
  evL G T Zas (neE k j n all i) ⟨bs,[]⟩ = some (.exit 0,[(0,.ptr k 0),(6,.bool all),(13,.own j 0 n 2),(14,.int .i64 (n : Int)),(15,.int .i64 (i : Int)),(16,.bool false)],⟨bs,[]⟩):=by
 have hi' : ¬ (i : Int) < (n : Int):=by omega
 rw [Zsv]
 unfold neE
 repeat' (first|simp (maxSteps:=9^7) only [seval,exC,ZaP,hi']|simp (maxSteps:=9^7) (disch:=first|with_reducible assumption|omega) only [dxB]|(simp only [kdB];split)|(simp only [kvB];split))
theorem Zrj (J : Al G T g) (hM : HasM g T) (F : Fm) {l : List (Nat × Nat)} {k j n : Nat} (hl : l.length≤1000) (h64 : W64 l) : ∀ (m i : Nat) (all : Bool) (bs : List Blk),i + m = l.length→bs[k]? = some (engB F.u n)→bs[j]? = some ⟨zcells l,false⟩ →
  ∃ bs',(Zws F (l.drop i)∧evL G T Zas (neE k j l.length all i) ⟨bs,[]⟩ = some (.exit 0,[(0,.ptr k 0),(6,.bool (all && decide (inZs F (l.drop i)))),(13,.own j 0 l.length 2),(14,.int .i64 (l.length : Int)),(15,.int .i64 (l.length : Int)),(16,.bool false)],⟨bs ++ bs',[]⟩)) ∨
   (¬ Zws F (l.drop i)∧evL G T Zas (neE k j l.length all i) ⟨bs,[]⟩ = some (.ret,[(4,.bool false),(5,.int .i64 6)],⟨bs ++ bs',[]⟩))
 | 0,i,all,bs,hm,hk,hj => by
  have hd : l.drop i = []:=List.drop_eq_nil_of_le (by omega)
  refine ⟨[],Or.inl ⟨by rw [hd]; exact ZrW,?_⟩⟩
  have : i = l.length:=by omega
  subst this
  rw [ZwO (Nat.le_refl _),hd,decide_eq_true (ZmO),Bool.and_true,List.append_nil]
 | m + 1,i,all,bs,hm,hk,hj => by
  have hi : i < l.length:=by omega
  have hd:=Zsb hi
  have hmem:=ZCt hi
  have kl:=(List.getElem?_eq_some_iff.1 hk).1
  have jl:=(List.getElem?_eq_some_iff.1 hj).1
  by_cases hw : Zw F (zc l i)
  ·obtain ⟨bs',h⟩:=Zrj J hM F hl h64 m (i + 1) (all && decide (inZ F (zc l i))) (bs ++ [zblk (zc l i)]) (by omega) (by rw [List.getElem?_append_left kl]; exact hk) (by rw [List.getElem?_append_left jl]; exact hj)
   rw [← Ztp J hM F hl hi hw hk hj,List.append_assoc] at h
   refine ⟨[zblk (zc l i)] ++ bs',?_⟩
   rw [hd,Zla]
   refine h.imp (fun q => ⟨⟨hw,q.1⟩,?_⟩) (fun q => ⟨fun r => q.1 r.2,q.2⟩)
   rw [q.2]
   have e : (all && decide (inZ F (zc l i)) && decide (inZs F (l.drop (i + 1)))) = (all && decide (inZs F (zc l i :: l.drop (i + 1)))):=by
    rw [Bool.and_assoc]
    congr 1
    rw [← Bool.decide_and]
    exact decide_eq_decide.2 Zjs.symm
   rw [e]
  ·refine ⟨[zblk (zc l i)],Or.inr ⟨by rw [hd,Zla]; exact fun q => hw q.1,ZCY J hM F hl hi (h64 _ hmem) hw hk hj⟩⟩
theorem Zto (J : Al G T g) (hM : HasM g T) (F : Fm) {l : List (Nat × Nat)} {k j n : Nat} (hl : l.length≤1000) (h64 : W64 l) {bs : List Blk} (hk : bs[k]? = some (engB F.u n)) (hj : bs[j]? = some ⟨zcells l,false⟩) :
  ∃ bs',kJ G Zah.res (evL G T Zah.body [(0,.ptr k 0),(1,.own j 0 l.length 2)] ⟨bs,[]⟩) = some (if Zws F l then .tup [.bool (decide (inZs F l)),.int .i64 0] else .tup [.bool false,.int .i64 6],⟨bs ++ bs',[]⟩):=by
 obtain ⟨bs',h⟩:=Zrj J hM F (k:=k) (j:=j) (n:=n) hl h64 l.length 0 true bs (by omega) hk hj
 rw [List.drop_zero,Bool.true_and] at h
 refine ⟨bs',?_⟩
 unfold neE at h
 simp only [cast0] at h
 rcases h with ⟨hz,lp⟩ | ⟨hz,lp⟩
 ·rw [if_pos hz]
  generalize decide (inZs F (l)) = r at *
  repeat' (first|simp (maxSteps:=9^7) only [seval,exC,Zah,fcB,lp]|simp (maxSteps:=9^7) (disch:=first|with_reducible assumption|omega) only [dxB]|(simp only [kdB];split)|(simp only [kvB];split))
 ·rw [if_neg hz]
  repeat' (first|simp (maxSteps:=9^7) only [seval,exC,Zah,fcB,lp]|simp (maxSteps:=9^7) (disch:=first|with_reducible assumption|omega) only [dxB]|(simp only [kdB];split)|(simp only [kvB];split))
end Go.Cv
namespace Go.Cv
variable {G : Nat→Option (List AV)} {T : Tbl} {g : Nat}
def fsel (F : Fm) (p q : Nat) : Nat:=match F with
 | .s => p
 | .d => q
def opA (p q : Nat) : AV:=.agg [.fn p [],.fn q []]
def flA (F : Fm) (a : Nat) : AV:=.fl (fk F) a
theorem Zuc (hM : HasM g T) (hL : HasL g T) {a : Nat} (ha : a < 4294967296) : run G T 398 [.int .u64 (a : Int)] = some (.fl .f32 a):=by
 rw [Zac G T hM.fast_op_do_1]
 have w1 : IntKind.u32.wrap (a : Int) = (a : Int):=by rw [Zhi]; omega
 have h1:=ZwZ (G:=G) hL a
 repeat' (first|simp (maxSteps:=9^7) only [seval,exC,ZeF,fcB,w1,h1]|simp (maxSteps:=9^7) (disch:=first|with_reducible assumption|omega) only [dxB]|(simp only [kdB];split)|(simp only [kvB];split))
theorem ZHn (hM : HasM g T) (hL : HasL g T) (F : Fm) {p q a b c d x y : Nat} (ha : a < 2 * F.sg) (hb : b < 2 * F.sg) (hc : c < 2 * F.sg) (hd : d < 2 * F.sg) (hx : x < 2 * F.sg) (hy : y < 2 * F.sg)
  (h : run G T (fsel F p q) [flA F a,flA F b,flA F c,flA F d] = some (.tup [flA F x,flA F y])) :
  run G T 388 [opA p q,.int .u8 F.u,zA a b,zA c d] = some (zA x y):=by
 rw [Zac G T hM.fast_op_do]
 cases F
 ·have s : 2 * Fm.s.sg = 4294967296:=rfl
  rw [s] at ha hb hc hd hx hy
  have h1:=Zuc (G:=G) hM hL ha
  have h2:=Zuc (G:=G) hM hL hb
  have h3:=Zuc (G:=G) hM hL hc
  have h4:=Zuc (G:=G) hM hL hd
  have b1:=ZpH (G:=G) hL x
  have b2:=ZpH (G:=G) hL y
  have w1 : IntKind.u64.wrap (x : Int) = (x : Int):=by rw [Zbx]; omega
  have w2 : IntKind.u64.wrap (y : Int) = (y : Int):=by rw [Zbx]; omega
  simp only [zA,opA,Fm.u,fsel,flA,fk] at *
  repeat' (first|simp (maxSteps:=9^7) only [seval,exC,Zfa,fcB,h1,h2,h3,h4,h,b1,b2,w1,w2]|simp (maxSteps:=9^7) (disch:=first|with_reducible assumption|omega) only [dxB]|(simp only [kdB];split)|(simp only [kvB];split))
 ·have h1:=ZoU (G:=G) hL a
  have h2:=ZoU (G:=G) hL b
  have h3:=ZoU (G:=G) hL c
  have h4:=ZoU (G:=G) hL d
  have b1:=ZpI (G:=G) hL x
  have b2:=ZpI (G:=G) hL y
  simp only [zA,opA,Fm.u,fsel,flA,fk] at *
  repeat' (first|simp (maxSteps:=9^7) only [seval,exC,Zfa,fcB,h1,h2,h3,h4,h,b1,b2]|simp (maxSteps:=9^7) (disch:=first|with_reducible assumption|omega) only [dxB]|(simp only [kdB];split)|(simp only [kvB];split))
theorem inZ2 {F : Fm} {a b c d : Nat} : inZs F [(a,b),(c,d)]↔inZ F (a,b)∧inZ F (c,d):=by rw [Zjs,Zjs]; exact ⟨fun q => ⟨q.1,q.2.1⟩,fun q => ⟨q.1,q.2,ZmO⟩⟩
theorem Zws2 {F : Fm} {a b c d : Nat} : Zws F [(a,b),(c,d)]↔Zw F (a,b)∧Zw F (c,d):=by rw [Zla,Zla]; exact ⟨fun q => ⟨q.1,q.2.1⟩,fun q => ⟨q.1,q.2,ZrW⟩⟩
theorem zcl2 (a b c d : Nat) : zcells [(a,b),(c,d)] = [.int .u64 (a : Int),.int .u64 (b : Int),.int .u64 (c : Int),.int .u64 (d : Int)]:=rfl
theorem zcl1 (a b : Nat) : zcells [(a,b)] = [.int .u64 (a : Int),.int .u64 (b : Int)]:=rfl
theorem Znz (J : Al G T g) (hM : HasM g T) (F : Fm) {l : List (Nat × Nat)} {k j n : Nat} (hl : l.length≤1000) (hw : Zws F l) : ∀ (m i : Nat) (all : Bool) (bs : List Blk),i + m = l.length→bs[k]? = some (engB F.u n)→bs[j]? = some ⟨zcells l,false⟩ →
  evL G T Zas (neE k j l.length all i) ⟨bs,[]⟩ = some (.exit 0,[(0,.ptr k 0),(6,.bool (all && decide (inZs F (l.drop i)))),(13,.own j 0 l.length 2),(14,.int .i64 (l.length : Int)),(15,.int .i64 (l.length : Int)),(16,.bool false)],⟨bs ++ (l.drop i).map zblk,[]⟩)
 | 0,i,all,bs,hm,hk,hj => by
  have hd : l.drop i = []:=List.drop_eq_nil_of_le (by omega)
  have : i = l.length:=by omega
  subst this
  rw [ZwO (Nat.le_refl _),hd,decide_eq_true ZmO,Bool.and_true,List.map_nil,List.append_nil]
 | m + 1,i,all,bs,hm,hk,hj => by
  have hi : i < l.length:=by omega
  have hd:=Zsb hi
  have kl:=(List.getElem?_eq_some_iff.1 hk).1
  have jl:=(List.getElem?_eq_some_iff.1 hj).1
  have h:=Znz J hM F hl hw m (i + 1) (all && decide (inZ F (zc l i))) (bs ++ [zblk (zc l i)]) (by omega) (by rw [List.getElem?_append_left kl]; exact hk) (by rw [List.getElem?_append_left jl]; exact hj)
  rw [← Ztp J hM F hl hi (hw _ (ZCt hi)) hk hj,List.append_assoc] at h
  rw [h,hd]
  have e : (all && decide (inZ F (zc l i)) && decide (inZs F (l.drop (i + 1)))) = (all && decide (inZs F (zc l i :: l.drop (i + 1)))):=by
   rw [Bool.and_assoc]
   congr 1
   rw [← Bool.decide_and]
   exact decide_eq_decide.2 Zjs.symm
  rw [e]
  rfl
theorem ZqO (J : Al G T g) (hM : HasM g T) (F : Fm) {l : List (Nat × Nat)} {k j n : Nat} (hl : l.length≤1000) (hw : Zws F l) {bs : List Blk} (hk : bs[k]? = some (engB F.u n)) (hj : bs[j]? = some ⟨zcells l,false⟩) :
  kJ G Zah.res (evL G T Zah.body [(0,.ptr k 0),(1,.own j 0 l.length 2)] ⟨bs,[]⟩) = some (.tup [.bool (decide (inZs F l)),.int .i64 0],⟨bs ++ l.map zblk,[]⟩):=by
 have lp:=Znz J hM F (k:=k) (j:=j) (n:=n) hl hw l.length 0 true bs (by omega) hk hj
 rw [List.drop_zero,Bool.true_and] at lp
 unfold neE at lp
 simp only [cast0] at lp
 generalize decide (inZs F l) = r at *
 repeat' (first|simp (maxSteps:=9^7) only [seval,exC,Zah,fcB,lp]|simp (maxSteps:=9^7) (disch:=first|with_reducible assumption|omega) only [dxB]|(simp only [kdB];split)|(simp only [kvB];split))
theorem near2 (J : Al G T g) (hM : HasM g T) (F : Fm) {k n a b c d : Nat} {bs L : List Blk} {j : Nat} (ha : a < 18446744073709551616) (hb : b < 18446744073709551616) (hc : c < 18446744073709551616) (hd : d < 18446744073709551616) (hk : bs[k]? = some (engB F.u n)) (hj : (bs ++ L)[j]? = some ⟨[.int .u64 (a : Int),.int .u64 (b : Int),.int .u64 (c : Int),.int .u64 (d : Int)],false⟩) :
  (Zw F (a,b)∧Zw F (c,d)→kJ G Zah.res (evL G T Zah.body [(0,.ptr k 0),(1,.own j 0 2 2)] ⟨bs ++ L,[]⟩) = some (.tup [.bool (decide (inZ F (a,b)∧inZ F (c,d))),.int .i64 0],⟨bs ++ (L ++ [zblk (a,b),zblk (c,d)]),[]⟩)) ∧
  (¬ (Zw F (a,b)∧Zw F (c,d))→∃ bs',kJ G Zah.res (evL G T Zah.body [(0,.ptr k 0),(1,.own j 0 2 2)] ⟨bs ++ L,[]⟩) = some (.tup [.bool false,.int .i64 6],⟨bs ++ (L ++ bs'),[]⟩)):=by
 have hk' : (bs ++ L)[k]? = some (engB F.u n):=by rw [List.getElem?_append_left (List.getElem?_eq_some_iff.1 hk).1]; exact hk
 refine ⟨fun q => ?_,fun q => ?_⟩
 ·have h:=ZqO J hM F (l:=[(a,b),(c,d)]) (by simp) (Zws2.2 q) hk' (by rw [hj,zcl2])
  rw [List.append_assoc,decide_eq_decide.2 (inZ2 (F:=F))] at h
  exact h
 ·obtain ⟨bs',h⟩:=Zto J hM F (l:=[(a,b),(c,d)]) (k:=k) (j:=j) (n:=n) (bs:=bs ++ L) (by simp) (by
   intro x hx
   simp only [List.mem_cons,List.not_mem_nil,or_false] at hx
   rcases hx with rfl | rfl
   ·exact ⟨ha,hb⟩
   ·exact ⟨hc,hd⟩) hk' (by rw [hj,zcl2])
  rw [if_neg (fun r => q (Zws2.1 r)),List.append_assoc] at h
  exact ⟨bs',h⟩
theorem near1 (J : Al G T g) (hM : HasM g T) (F : Fm) {k n a b : Nat} {bs L : List Blk} {j : Nat} (ha : a < 18446744073709551616) (hb : b < 18446744073709551616) (hk : bs[k]? = some (engB F.u n)) (hj : (bs ++ L)[j]? = some ⟨[.int .u64 (a : Int),.int .u64 (b : Int)],false⟩) :
  (Zw F (a,b)→kJ G Zah.res (evL G T Zah.body [(0,.ptr k 0),(1,.own j 0 1 2)] ⟨bs ++ L,[]⟩) = some (.tup [.bool (decide (inZ F (a,b))),.int .i64 0],⟨bs ++ (L ++ [zblk (a,b)]),[]⟩)) ∧
  (¬ Zw F (a,b)→∃ bs',kJ G Zah.res (evL G T Zah.body [(0,.ptr k 0),(1,.own j 0 1 2)] ⟨bs ++ L,[]⟩) = some (.tup [.bool false,.int .i64 6],⟨bs ++ (L ++ bs'),[]⟩)):=by
 have hk' : (bs ++ L)[k]? = some (engB F.u n):=by rw [List.getElem?_append_left (List.getElem?_eq_some_iff.1 hk).1]; exact hk
 have e1 : Zws F [(a,b)]↔Zw F (a,b):=by rw [Zla]; exact ⟨fun q => q.1,fun q => ⟨q,ZrW⟩⟩
 have e2 : inZs F [(a,b)]↔inZ F (a,b):=by rw [Zjs]; exact ⟨fun q => q.1,fun q => ⟨q,ZmO⟩⟩
 refine ⟨fun q => ?_,fun q => ?_⟩
 ·have h:=ZqO J hM F (l:=[(a,b)]) (by simp) (e1.2 q) hk' (by rw [hj,zcl1])
  rw [List.append_assoc,decide_eq_decide.2 e2] at h
  exact h
 ·obtain ⟨bs',h⟩:=Zto J hM F (l:=[(a,b)]) (k:=k) (j:=j) (n:=n) (bs:=bs ++ L) (by simp) (by
   intro x hx
   simp only [List.mem_cons,List.not_mem_nil,or_false] at hx
   rcases hx with rfl
   exact ⟨ha,hb⟩) hk' (by rw [hj,zcl1])
  rw [if_neg (fun r => q (e1.1 r)),List.append_assoc] at h
  exact ⟨bs',h⟩
section
variable {α : Type} (bs L : List α) (v : α)
theorem ga5 : (bs ++ L)[bs.length + 5]? = L[5]?:=by rw [List.getElem?_append_right (Nat.le_add_right ..),Nat.add_sub_cancel_left]
theorem ga6 : (bs ++ L)[bs.length + 6]? = L[6]?:=by rw [List.getElem?_append_right (Nat.le_add_right ..),Nat.add_sub_cancel_left]
theorem ga7 : (bs ++ L)[bs.length + 7]? = L[7]?:=by rw [List.getElem?_append_right (Nat.le_add_right ..),Nat.add_sub_cancel_left]
theorem gs5 : (bs ++ L).set (bs.length + 5) v = bs ++ L.set 5 v:=by rw [List.set_append_right _ _ (Nat.le_add_right ..),Nat.add_sub_cancel_left]
theorem gs6 : (bs ++ L).set (bs.length + 6) v = bs ++ L.set 6 v:=by rw [List.set_append_right _ _ (Nat.le_add_right ..),Nat.add_sub_cancel_left]
theorem gs7 : (bs ++ L).set (bs.length + 7) v = bs ++ L.set 7 v:=by rw [List.set_append_right _ _ (Nat.le_add_right ..),Nat.add_sub_cancel_left]
end
theorem gbB {α : Type} : type_of% (And.intro (And.intro (@ga5 α) (@ga6 α)) (And.intro (And.intro (@ga7 α) (@gs5 α)) (And.intro (@gs6 α) (@gs7 α)))):=And.intro (And.intro (@ga5 α) (@ga6 α)) (And.intro (And.intro (@ga7 α) (@gs5 α)) (And.intro (@gs6 α) (@gs7 α)))
theorem ZnA {bs : List Blk} {k n : Nat} {f : Int} (h : bs[k]? = some (engB f n)) (L : List Blk) : rdAt G (Heap.mem ⟨bs ++ L,[]⟩) 1 (.ptr k 0) = some [.int .u8 f] :=
 Zsd (n:=n) (by rw [List.getElem?_append_left (List.getElem?_eq_some_iff.1 h).1]; exact h)
set_option maxHeartbeats 4000000 in
theorem ZAA (J : Al G T g) (hM : HasM g T) (hL : HasL g T) (F : Fm) {k n a b c d p q x y u : Nat} {bs : List Blk} (hz : Zw F (a,b)) (hw : Zw F (c,d)) (hi : inZ F (a,b)∧inZ F (c,d)) (hk : bs[k]? = some (engB F.u n)) (hx : x < 2 * F.sg) (hy : y < 2 * F.sg)
  (h : run G T (fsel F p q) [flA F a,flA F b,flA F c,flA F d] = some (.tup [flA F x,flA F y])) :
  ∃ bs',kJ G Zak.res (evL G T Zak.body [(0,.ptr k 0),(1,zA a b),(2,zA c d),(3,opA p q),(4,.fn u [])] ⟨bs,[]⟩) = some (.tup [zA x y,.int .i64 0],⟨bs ++ bs',[]⟩):=by
 have h1:=(near2 J hM F (k:=k) (n:=n) (bs:=bs) (L:=[zblk (a,b),zblk (c,d),⟨[.fn p [],.fn q []],false⟩,⟨[.int .u64 0,.int .u64 0],false⟩,⟨[.int .u64 (a : Int),.int .u64 (b : Int),.int .u64 (c : Int),.int .u64 (d : Int)],false⟩]) (j:=bs.length + 4) (ZbS hz.1) (ZbS hz.2) (ZbS hw.1) (ZbS hw.2) hk (by rw [ga4]; rfl)).1 ⟨hz,hw⟩
 rw [decide_eq_true hi] at h1
 have o1:=ZHn hM hL F hz.1 hz.2 hw.1 hw.2 hx hy h
 have r0:=ZnA (G:=G) hk
 simp only [zA,opA,zblk,List.cons_append,List.nil_append] at *
 clear hk hi hz hw
 generalize F.u = fu at *
 refine ⟨?_,?_⟩
 rotate_left
 ·repeat' (first|simp (maxSteps:=9^7) only [seval,exC,Zak,fcB,gaB,gbB,Zaw G T hM.fast_Engine_near,h1,o1,r0]|simp (maxSteps:=9^7) (disch:=first|with_reducible assumption|omega) only [dxB]|(simp only [kdB];split)|(simp only [kvB];split))
  exact rfl
theorem Ztn (hL : HasL g T) (hM : HasM g T) {bs : List Blk} {k n : Nat} {f : Int} (h : bs[k]? = some (engB f n)) (hn : n < 1000000) (L : List Blk) :
  kJ G Zat.res (evL G T Zat.body [(0,.ptr k 1),(1,.int .u64 1)] ⟨bs ++ L,[]⟩) = some (.int .u64 ((n + 1 : Nat) : Int),⟨bs.set k (engB f (n + 1)) ++ L,[]⟩):=by
 have kl:=(List.getElem?_eq_some_iff.1 h).1
 rw [ZCX hL hM (n:=n) (f:=f) (by rw [List.getElem?_append_left kl]; exact h) hn,List.set_append_left _ _ kl]
theorem ZsE {bs : List Blk} {k n : Nat} {f : Int} (h : bs[k]? = some (engB f n)) (m : Nat) : (bs.set k (engB f m))[k]? = some (engB f m):=by
 rw [List.getElem?_set_self (List.getElem?_eq_some_iff.1 h).1]
theorem ZmF {α : Type} {bs bs2 : List α} (h : bs2.length = bs.length) (L : List α) (i : Nat) : (bs2 ++ L)[bs.length + i]? = L[i]?:=by
 rw [← h,List.getElem?_append_right (Nat.le_add_right ..),Nat.add_sub_cancel_left]
theorem ZtE {α : Type} {bs bs2 : List α} (h : bs2.length = bs.length) (L : List α) (i : Nat) (v : α) : (bs2 ++ L).set (bs.length + i) v = bs2 ++ L.set i v:=by
 rw [← h,List.set_append_right _ _ (Nat.le_add_right ..),Nat.add_sub_cancel_left]
set_option maxHeartbeats 4000000 in
theorem Zwd (J : Al G T g) (hM : HasM g T) (hL : HasL g T) (F : Fm) {k n a b c d p q x y u f1 f2 : Nat} {bs : List Blk} (hz : Zw F (a,b)) (hw : Zw F (c,d)) (hi : ¬ (inZ F (a,b)∧inZ F (c,d))) (hk : bs[k]? = some (engB F.u n)) (hn : n < 1000000)
  (h : run G T u [.int .u8 F.u,.int .u8 1,zA a b,zA c d] = some (.tup [.agg [.int .u64 (x : Int),.int .u64 (y : Int),.int .u8 (f1 : Int),.int .u8 (f2 : Int)],.int .i64 0])) :
  ∃ bs',kJ G Zak.res (evL G T Zak.body [(0,.ptr k 0),(1,zA a b),(2,zA c d),(3,opA p q),(4,.fn u [])] ⟨bs,[]⟩) = some (.tup [zA x y,.int .i64 0],⟨bs.set k (engB F.u (n + 1)) ++ bs',[]⟩):=by
 have h1:=(near2 J hM F (k:=k) (n:=n) (bs:=bs) (L:=[zblk (a,b),zblk (c,d),⟨[.fn p [],.fn q []],false⟩,⟨[.int .u64 0,.int .u64 0],false⟩,⟨[.int .u64 (a : Int),.int .u64 (b : Int),.int .u64 (c : Int),.int .u64 (d : Int)],false⟩]) (j:=bs.length + 4) (ZbS hz.1) (ZbS hz.2) (ZbS hw.1) (ZbS hw.2) hk (by rw [ga4]; rfl)).1 ⟨hz,hw⟩
 rw [decide_eq_false hi] at h1
 have a1:=Ztn (G:=G) hL hM hk hn
 have r0:=ZnA (G:=G) (ZsE hk (n + 1))
 have hl : (bs.set k (engB F.u (n + 1))).length = bs.length:=List.length_set ..
 generalize bs.set k (engB F.u (n + 1)) = bs2 at *
 have gz:=fun L i => ZmF hl L i
 have gs:=fun L i v => ZtE hl L i v
 have gz0 : ∀ L : List Blk,(bs2 ++ L)[bs.length]? = L[0]?:=fun L => ZmF hl L 0
 simp only [zA,opA,zblk,List.cons_append,List.nil_append] at *
 clear hk hi hz hw
 generalize F.u = fu at *
 refine ⟨?_,?_⟩
 rotate_left
 ·repeat' (first|simp (maxSteps:=9^7) only [seval,exC,Zak,fcB,gaB,gbB,Zaw G T hM.fast_Engine_near,Zaw G T hM.sync_atomic_Uint64_Add,h1,r0,a1,h,hl,gz0,gz,gs]|simp (maxSteps:=9^7) (disch:=first|with_reducible assumption|omega) only [dxB]|(simp only [kdB];split)|(simp only [kvB];split))
  exact rfl
theorem Zwc (J : Al G T g) (hM : HasM g T) (hL : HasL g T) (F : Fm) {k n a b c d p q u : Nat} {bs : List Blk} (ha : a < 18446744073709551616) (hb : b < 18446744073709551616) (hc : c < 18446744073709551616) (hd : d < 18446744073709551616) (hzw : ¬ (Zw F (a,b)∧Zw F (c,d))) (hk : bs[k]? = some (engB F.u n)) :
  ∃ bs',kJ G Zak.res (evL G T Zak.body [(0,.ptr k 0),(1,zA a b),(2,zA c d),(3,opA p q),(4,.fn u [])] ⟨bs,[]⟩) = some (.tup [zA 0 0,.int .i64 6],⟨bs ++ bs',[]⟩):=by
 obtain ⟨bs',h1⟩:=(near2 J hM F (k:=k) (n:=n) (bs:=bs) (L:=[zblk (a,b),zblk (c,d),⟨[.fn p [],.fn q []],false⟩,⟨[.int .u64 0,.int .u64 0],false⟩,⟨[.int .u64 (a : Int),.int .u64 (b : Int),.int .u64 (c : Int),.int .u64 (d : Int)],false⟩]) (j:=bs.length + 4) ha hb hc hd hk (by rw [ga4]; rfl)).2 hzw
 simp only [zA,opA,zblk,List.cons_append,List.nil_append] at *
 clear hk hzw
 refine ⟨?_,?_⟩
 rotate_left
 ·repeat' (first|simp (maxSteps:=9^7) only [seval,exC,Zak,fcB,gaB,gbB,Zaw G T hM.fast_Engine_near,h1]|simp (maxSteps:=9^7) (disch:=first|with_reducible assumption|omega) only [dxB]|(simp only [kdB];split)|(simp only [kvB];split))
  exact rfl
end Go.Cv
namespace Go.Cv
variable {G : Nat→Option (List AV)} {T : Tbl} {g : Nat}
def L3 (a b c d : Nat) : List Blk:=[zblk (a,b),zblk (c,d),⟨[.int .u64 0,.int .u64 0],false⟩]
theorem ZvR (hM : HasM g T) {v : AV} {bs bs2 : List Blk} {a b c d x y : Nat} {e : Int} (hl : bs2.length = bs.length)
  (h : ∃ bs',kJ G Zak.res (evL G T Zak.body [(0,v),(1,zA a b),(2,zA c d),(3,opA 361 362),(4,.fn 252 [])] ⟨bs ++ L3 a b c d,[]⟩) = some (.tup [zA x y,.int .i64 e],⟨bs2 ++ (L3 a b c d ++ bs'),[]⟩)) :
  ∃ bs',kJ G Zao.res (evL G T Zao.body [(0,v),(1,zA a b),(2,zA c d)] ⟨bs,[]⟩) = some (.tup [zA x y,.int .i64 e],⟨bs2 ++ bs',[]⟩):=by
 obtain ⟨bs',h⟩:=h
 have gz0 : ∀ L : List Blk,(bs2 ++ L)[bs.length]? = L[0]?:=fun L => ZmF hl L 0
 have gz:=fun L i => ZmF hl L i
 have gs:=fun L i v => ZtE hl L i v
 simp only [zA,opA,zblk,L3,List.cons_append,List.nil_append] at *
 refine ⟨?_,?_⟩
 rotate_left
 ·repeat' (first|simp (maxSteps:=9^7) only [seval,exC,Zao,fcB,gaB,gbB,Zaw G T hM.fast_Engine_ask,h,gz0,gz,gs]|simp (maxSteps:=9^7) (disch:=first|with_reducible assumption|omega) only [dxB]|(simp only [kdB];split)|(simp only [kvB];split))
  exact rfl
theorem ZvN (hM : HasM g T) {v : AV} {bs bs2 : List Blk} {a b c d x y : Nat} {e : Int} (hl : bs2.length = bs.length)
  (h : ∃ bs',kJ G Zak.res (evL G T Zak.body [(0,v),(1,zA a b),(2,zA c d),(3,opA 366 367),(4,.fn 257 [])] ⟨bs ++ L3 a b c d,[]⟩) = some (.tup [zA x y,.int .i64 e],⟨bs2 ++ (L3 a b c d ++ bs'),[]⟩)) :
  ∃ bs',kJ G Zan.res (evL G T Zan.body [(0,v),(1,zA a b),(2,zA c d)] ⟨bs,[]⟩) = some (.tup [zA x y,.int .i64 e],⟨bs2 ++ bs',[]⟩):=by
 obtain ⟨bs',h⟩:=h
 have gz0 : ∀ L : List Blk,(bs2 ++ L)[bs.length]? = L[0]?:=fun L => ZmF hl L 0
 have gz:=fun L i => ZmF hl L i
 have gs:=fun L i v => ZtE hl L i v
 simp only [zA,opA,zblk,L3,List.cons_append,List.nil_append] at *
 refine ⟨?_,?_⟩
 rotate_left
 ·repeat' (first|simp (maxSteps:=9^7) only [seval,exC,Zan,fcB,gaB,gbB,Zaw G T hM.fast_Engine_ask,h,gz0,gz,gs]|simp (maxSteps:=9^7) (disch:=first|with_reducible assumption|omega) only [dxB]|(simp only [kdB];split)|(simp only [kvB];split))
  exact rfl
structure Ans (F : Fm) (res : List IRes) (body : IC) (args : List (Nat × AV)) (k : Nat) (v : AV) (e : Int) (n m : Nat) (G : Nat→Option (List AV)) (T : Tbl) : Prop where
 run : ∀ bs : List Blk,bs[k]? = some (engB F.u n)→∃ bs',kJ G res (evL G T body ((0,.ptr k 0) :: args) ⟨bs,[]⟩) = some (.tup [v,.int .i64 e],⟨bs.set k (engB F.u m) ++ bs',[]⟩)
theorem ZiS {bs : List Blk} {k n : Nat} {f : Int} (h : bs[k]? = some (engB f n)) : bs.set k (engB f n) = bs:=by
 obtain ⟨kl,hk⟩:=List.getElem?_eq_some_iff.1 h
 rw [← hk,List.set_getElem_self]
theorem ZqE {bs L : List Blk} {k n : Nat} {f : Int} (h : bs[k]? = some (engB f n)) : (bs ++ L)[k]? = some (engB f n):=by
 rw [List.getElem?_append_left (List.getElem?_eq_some_iff.1 h).1]; exact h
theorem Zwb {bs L : List Blk} {k n m : Nat} {f : Int} (h : bs[k]? = some (engB f n)) : (bs ++ L).set k (engB f m) = bs.set k (engB f m) ++ L :=
 List.set_append_left _ _ (List.getElem?_eq_some_iff.1 h).1
section
variable (J : Al G T g) (hM : HasM g T) (hL : HasL g T) (F : Fm)
 include J hM hL
theorem ZEi {k n a b c d x y : Nat} (hz : Zw F (a,b)) (hw : Zw F (c,d)) (hi : inZ F (a,b)∧inZ F (c,d)) (hx : x < 2 * F.sg) (hy : y < 2 * F.sg)
  (h : run G T (fsel F 361 362) [flA F a,flA F b,flA F c,flA F d] = some (.tup [flA F x,flA F y])) : Ans F Zao.res Zao.body [(1,zA a b),(2,zA c d)] k (zA x y) 0 n n G T :=
 ⟨fun bs hk => by
  rw [ZiS hk]
  refine ZvR hM rfl ?_
  obtain ⟨bs',h⟩:=ZAA J hM hL F (u:=252) hz hw hi (ZqE (L:=L3 a b c d) hk) hx hy h
  exact ⟨bs',by rw [h,List.append_assoc]⟩⟩
theorem ZvS {k n a b c d x y f1 f2 : Nat} (hz : Zw F (a,b)) (hw : Zw F (c,d)) (hi : ¬ (inZ F (a,b)∧inZ F (c,d))) (hn : n < 1000000)
  (h : run G T 252 [.int .u8 F.u,.int .u8 1,zA a b,zA c d] = some (.tup [.agg [.int .u64 (x : Int),.int .u64 (y : Int),.int .u8 (f1 : Int),.int .u8 (f2 : Int)],.int .i64 0])) :
  Ans F Zao.res Zao.body [(1,zA a b),(2,zA c d)] k (zA x y) 0 n (n + 1) G T :=
 ⟨fun bs hk => by
  refine ZvR hM (List.length_set ..) ?_
  obtain ⟨bs',h⟩:=Zwd J hM hL F (p:=361) (q:=362) (u:=252) hz hw hi (ZqE (L:=L3 a b c d) hk) hn h
  exact ⟨bs',by rw [h,Zwb hk,List.append_assoc]⟩⟩
theorem ZvQ {k n a b c d : Nat} (ha : a < 18446744073709551616) (hb : b < 18446744073709551616) (hc : c < 18446744073709551616) (hd : d < 18446744073709551616) (hzw : ¬ (Zw F (a,b)∧Zw F (c,d))) :
  Ans F Zao.res Zao.body [(1,zA a b),(2,zA c d)] k (zA 0 0) 6 n n G T :=
 ⟨fun bs hk => by
  rw [ZiS hk]
  refine ZvR hM rfl ?_
  obtain ⟨bs',h⟩:=Zwc J hM hL F (p:=361) (q:=362) (u:=252) ha hb hc hd hzw (ZqE (L:=L3 a b c d) hk)
  exact ⟨bs',by rw [h,List.append_assoc]⟩⟩
theorem ZEh {k n a b c d x y : Nat} (hz : Zw F (a,b)) (hw : Zw F (c,d)) (hi : inZ F (a,b)∧inZ F (c,d)) (hx : x < 2 * F.sg) (hy : y < 2 * F.sg)
  (h : run G T (fsel F 366 367) [flA F a,flA F b,flA F c,flA F d] = some (.tup [flA F x,flA F y])) : Ans F Zan.res Zan.body [(1,zA a b),(2,zA c d)] k (zA x y) 0 n n G T :=
 ⟨fun bs hk => by
  rw [ZiS hk]
  refine ZvN hM rfl ?_
  obtain ⟨bs',h⟩:=ZAA J hM hL F (u:=257) hz hw hi (ZqE (L:=L3 a b c d) hk) hx hy h
  exact ⟨bs',by rw [h,List.append_assoc]⟩⟩
theorem ZCw {k n a b c d x y f1 f2 : Nat} (hz : Zw F (a,b)) (hw : Zw F (c,d)) (hi : ¬ (inZ F (a,b)∧inZ F (c,d))) (hn : n < 1000000)
  (h : run G T 257 [.int .u8 F.u,.int .u8 1,zA a b,zA c d] = some (.tup [.agg [.int .u64 (x : Int),.int .u64 (y : Int),.int .u8 (f1 : Int),.int .u8 (f2 : Int)],.int .i64 0])) :
  Ans F Zan.res Zan.body [(1,zA a b),(2,zA c d)] k (zA x y) 0 n (n + 1) G T :=
 ⟨fun bs hk => by
  refine ZvN hM (List.length_set ..) ?_
  obtain ⟨bs',h⟩:=Zwd J hM hL F (p:=366) (q:=367) (u:=257) hz hw hi (ZqE (L:=L3 a b c d) hk) hn h
  exact ⟨bs',by rw [h,Zwb hk,List.append_assoc]⟩⟩
theorem ZvM {k n a b c d : Nat} (ha : a < 18446744073709551616) (hb : b < 18446744073709551616) (hc : c < 18446744073709551616) (hd : d < 18446744073709551616) (hzw : ¬ (Zw F (a,b)∧Zw F (c,d))) :
  Ans F Zan.res Zan.body [(1,zA a b),(2,zA c d)] k (zA 0 0) 6 n n G T :=
 ⟨fun bs hk => by
  rw [ZiS hk]
  refine ZvN hM rfl ?_
  obtain ⟨bs',h⟩:=Zwc J hM hL F (p:=366) (q:=367) (u:=257) ha hb hc hd hzw (ZqE (L:=L3 a b c d) hk)
  exact ⟨bs',by rw [h,List.append_assoc]⟩⟩
end
def L2 (a b : Nat) : List Blk:=[zblk (a,b),zblk (a,b)]
set_option maxHeartbeats 4000000 in
theorem ZvI (J : Al G T g) (hM : HasM g T) (hL : HasL g T) (F : Fm) {k n a b x f1 : Nat} (hz : Zw F (a,b)) (hi : ¬ inZ F (a,b)) (hn : n < 1000000)
  (h : run G T 169 [.int .u8 F.u,.int .u8 1,zA a b] = some (.tup [.int .u64 (x : Int),.int .u8 (f1 : Int),.int .i64 0])) :
  Ans F Zai.res Zai.body [(1,zA a b)] k (.int .u64 (x : Int)) 0 n (n + 1) G T :=
 ⟨fun bs hk => by
  have h1:=(near1 J hM F (k:=k) (n:=n) (bs:=bs) (L:=L2 a b) (j:=bs.length + 1) (ZbS hz.1) (ZbS hz.2) hk (by rw [ga1]; rfl)).1 hz
  rw [decide_eq_false hi] at h1
  have a1:=Ztn (G:=G) hL hM hk hn
  have r0:=ZnA (G:=G) (ZsE hk (n + 1))
  have hl : (bs.set k (engB F.u (n + 1))).length = bs.length:=List.length_set ..
  generalize bs.set k (engB F.u (n + 1)) = bs2 at *
  have gz0 : ∀ L : List Blk,(bs2 ++ L)[bs.length]? = L[0]?:=fun L => ZmF hl L 0
  have gz:=fun L i => ZmF hl L i
  have gs:=fun L i v => ZtE hl L i v
  simp only [zA,L2,zblk,List.cons_append,List.nil_append] at *
  clear hk hi hz
  generalize F.u = fu at *
  refine ⟨?_,?_⟩
  rotate_left
  ·repeat' (first|simp (maxSteps:=9^7) only [seval,exC,Zai,fcB,gaB,gbB,Zci,Zaw G T hM.fast_Engine_near,Zaw G T hM.sync_atomic_Uint64_Add,h1,r0,a1,h,hl,gz0,gz,gs]|simp (maxSteps:=9^7) (disch:=first|with_reducible assumption|omega) only [dxB]|(simp only [kdB];split)|(simp only [kvB];split))
   exact rfl⟩
theorem ZvH (J : Al G T g) (hM : HasM g T) (hL : HasL g T) (F : Fm) {k n a b : Nat} (ha : a < 18446744073709551616) (hb : b < 18446744073709551616) (hz : ¬ Zw F (a,b)) :
  Ans F Zai.res Zai.body [(1,zA a b)] k (.int .u64 0) 6 n n G T :=
 ⟨fun bs hk => by
  rw [ZiS hk]
  obtain ⟨bs',h1⟩:=(near1 J hM F (k:=k) (n:=n) (bs:=bs) (L:=L2 a b) (j:=bs.length + 1) ha hb hk (by rw [ga1]; rfl)).2 hz
  simp only [zA,L2,zblk,List.cons_append,List.nil_append] at *
  clear hk hz
  refine ⟨?_,?_⟩
  rotate_left
  ·repeat' (first|simp (maxSteps:=9^7) only [seval,exC,Zai,fcB,gaB,gbB,Zci,Zaw G T hM.fast_Engine_near,h1]|simp (maxSteps:=9^7) (disch:=first|with_reducible assumption|omega) only [dxB]|(simp only [kdB];split)|(simp only [kvB];split))
   exact rfl⟩
set_option maxHeartbeats 4000000 in
theorem Zzf (J : Al G T g) (hM : HasM g T) (hL : HasL g T) {k n a b p q s s' t r : Nat} (hz : Zw .s (a,b)) (hi : inZ .s (a,b)) (hr : r < 4294967296)
  (h1 : evFl .mul .f32 (.fl .f32 a) (.fl .f32 a) = some (.fl .f32 p)) (h2 : evFl .mul .f32 (.fl .f32 b) (.fl .f32 b) = some (.fl .f32 q)) (h3 : evFl .add .f32 (.fl .f32 p) (.fl .f32 q) = some (.fl .f32 s))
  (h4 : evFcv .f32 .f64 (.fl .f32 s) = some (.fl .f64 s')) (h5 : flR .f64 (FloatKind.f64.format.sqrt s') = .fl .f64 t) (h6 : evFcv .f64 .f32 (.fl .f64 t) = some (.fl .f32 r)) :
  Ans .s Zai.res Zai.body [(1,zA a b)] k (.int .u64 (r : Int)) 0 n n G T :=
 ⟨fun bs hk => by
  rw [ZiS hk]
  have n1:=(near1 J hM .s (k:=k) (n:=n) (bs:=bs) (L:=L2 a b) (j:=bs.length + 1) (ZbS hz.1) (ZbS hz.2) hk (by rw [ga1]; rfl)).1 hz
  rw [decide_eq_true hi] at n1
  have r0:=ZnA (G:=G) hk
  have q1:=Zlw (G:=G) hL hM s'
  rw [h5] at q1
  have f1:=ZwZ (G:=G) hL a
  have f2:=ZwZ (G:=G) hL b
  have b1:=ZpH (G:=G) hL r
  have z1 : a < 4294967296:=hz.1
  have z2 : b < 4294967296:=hz.2
  have w1 : IntKind.u32.wrap (a : Int) = (a : Int):=by rw [Zhi]; omega
  have w2 : IntKind.u32.wrap (b : Int) = (b : Int):=by rw [Zhi]; omega
  have w3 : IntKind.u64.wrap (r : Int) = (r : Int):=by rw [Zbx]; omega
  simp only [zA,L2,zblk,List.cons_append,List.nil_append,Fm.u] at *
  clear hk hi hz
  refine ⟨?_,?_⟩
  rotate_left
  ·repeat' (first|simp (maxSteps:=9^7) only [seval,exC,Zai,fcB,gaB,gbB,Zci,Zaw G T hM.fast_Engine_near,n1,r0,f1,f2,b1,w1,w2,w3,h1,h2,h3,h4,q1,h6]|simp (maxSteps:=9^7) (disch:=first|with_reducible assumption|omega) only [dxB]|(simp only [kdB];split)|(simp only [kvB];split))
   exact rfl⟩
set_option maxHeartbeats 4000000 in
theorem Zze (J : Al G T g) (hM : HasM g T) (hL : HasL g T) {k n a b p q s r : Nat} (hz : Zw .d (a,b)) (hi : inZ .d (a,b))
  (h1 : evFl .mul .f64 (.fl .f64 a) (.fl .f64 a) = some (.fl .f64 p)) (h2 : evFl .mul .f64 (.fl .f64 b) (.fl .f64 b) = some (.fl .f64 q)) (h3 : evFl .add .f64 (.fl .f64 p) (.fl .f64 q) = some (.fl .f64 s))
  (h5 : flR .f64 (FloatKind.f64.format.sqrt s) = .fl .f64 r) :
  Ans .d Zai.res Zai.body [(1,zA a b)] k (.int .u64 (r : Int)) 0 n n G T :=
 ⟨fun bs hk => by
  rw [ZiS hk]
  have n1:=(near1 J hM .d (k:=k) (n:=n) (bs:=bs) (L:=L2 a b) (j:=bs.length + 1) (ZbS hz.1) (ZbS hz.2) hk (by rw [ga1]; rfl)).1 hz
  rw [decide_eq_true hi] at n1
  have r0:=ZnA (G:=G) hk
  have q1:=Zlw (G:=G) hL hM s
  rw [h5] at q1
  have f1:=ZoU (G:=G) hL a
  have f2:=ZoU (G:=G) hL b
  have b1:=ZpI (G:=G) hL r
  simp only [zA,L2,zblk,List.cons_append,List.nil_append,Fm.u] at *
  clear hk hi hz
  refine ⟨?_,?_⟩
  rotate_left
  ·repeat' (first|simp (maxSteps:=9^7) only [seval,exC,Zai,fcB,gaB,gbB,Zci,Zaw G T hM.fast_Engine_near,n1,r0,f1,f2,b1,h1,h2,h3,q1]|simp (maxSteps:=9^7) (disch:=first|with_reducible assumption|omega) only [dxB]|(simp only [kdB];split)|(simp only [kvB];split))
   exact rfl⟩
end Go.Cv
namespace Go.Cv
variable {G : Nat→Option (List AV)} {T : Tbl} {g : Nat}
theorem Ans.use {F : Fm} {res : List IRes} {body : IC} {args : List (Nat × AV)} {k : Nat} {v : AV} {e : Int} {n m : Nat} (h : Ans F res body args k v e n m G T) {bs : List Blk} (hk : bs[k]? = some (engB F.u n)) :
  ∃ B : List Blk,kJ G res (evL G T body ((0,.ptr k 0) :: args) ⟨bs,[]⟩) = some (.tup [v,.int .i64 e],⟨B,[]⟩)∧B[k]? = some (engB F.u m)∧(∀ (i : Nat) (b : Blk),i≠k→bs[i]? = some b→B[i]? = some b):=by
 obtain ⟨bs',q⟩:=h.run bs hk
 have hl : (bs.set k (engB F.u m)).length = bs.length:=List.length_set ..
 refine ⟨_,q,ZqE (ZsE hk m),fun i b hi hb => ?_⟩
 have hi2:=(List.getElem?_eq_some_iff.1 hb).1
 rw [List.getElem?_append_left (by omega),List.getElem?_set_ne (by omega),hb]
theorem ZaU {bs : List Blk} {i : Nat} {b : Blk} (h : bs[i]? = some b) (L : List Blk) : (bs ++ L)[i]? = some b:=by
 rw [List.getElem?_append_left (List.getElem?_eq_some_iff.1 h).1]; exact h
theorem Zbh (hL : HasL g T) (hM : HasM g T) {bs : List Blk} {k n : Nat} {f : Int} (h : bs[k]? = some (engB f n)) (L : List Blk) :
  kJ G ZaG.res (evL G T ZaG.body [(0,.ptr k 0)] ⟨bs ++ L,[]⟩) = some (.int .u64 (n : Int),⟨bs ++ L,[]⟩):=Zdf hL hM (ZqE h)
theorem ZxH : mulZ .d 1 9218868437227405312 0 4607182418800017408 4607182418800017408 = ((9218868437227405312,0),(9218868437227405312,0)):=by decide +kernel
theorem ZiH (J : Al G T g) (hM : HasM g T) (hL : HasL g T) : run G T 329 [] = some (.bool true):=by
 rw [Zac G T hM.ZiH]
 have x1:=Zlp J .d (md:=1) (by decide) (a:=9218868437227405312) (b:=0) (c:=4607182418800017408) (d:=4607182418800017408) (by decide) (by decide) (by decide) (by decide)
 rw [ZxH] at x1
 have n1:=ZpA (G:=G) hM .d (bs:=[])
 obtain ⟨B,m1,hk,_⟩:=(ZvS J hM hL .d (k:=0) (n:=0) (a:=9218868437227405312) (b:=0) (c:=4607182418800017408) (d:=4607182418800017408) (by constructor <;> decide) (by constructor <;> decide) (by decide) (by decide) x1).use (bs:=[engB 2 0]) rfl
 have f1:=Zbh (G:=G) hL hM hk
 have hnil : (Heap.nil : Heap) = ⟨[],[]⟩:=rfl
 simp only [zA,Fm.u,List.nil_append,List.length_nil,cast0,Int.cast_ofNat_Int,show ((0 : Nat) : Int) = 0 from rfl,show ((0 + 1 : Nat) : Int) = 1 from rfl] at *
 repeat' (first|simp (maxSteps:=9^7) only [seval,exC,Zfz,fcB,gaB,Zaw G T hM.fast_New,Zaw G T hM.fast_Engine_Mul,Zaw G T hM.fast_Engine_Falls,n1,m1,f1,ZuF,ZGO,and_self,hnil]|simp (maxSteps:=9^7) (disch:=first|with_reducible assumption|omega) only [dxB]|(simp only [kdB];split)|(simp only [kvB];split))
def Rl (U : Nat) (n r : Int) : Prop:=U * (n - r).natAbs≤n.natAbs
theorem ZCA (U : Nat) : Rl U 0 0:=by unfold Rl; simp
theorem ZCB {p : Nat} (hp : 1≤p) {n r : Int} (h : Rn p n r) : Rl (2 ^ p) n r:=by
 obtain ⟨_,_,h3,h4⟩:=h
 unfold Rl
 by_cases hk : bl n≤p
 ·have e : P2 (bl n - p) = 1:=by rw [show bl n - p = 0 by omega]; rfl
  rw [e] at h3 h4
  have : n - r = 0:=by omega
  rw [this]; simp
 ·have h0 : n≠0:=fun q => hk (by rw [q]; exact Nat.zero_le _)
  have hg:=ZEz h0
  obtain ⟨k,ek⟩ : ∃ k,k = bl n - p:=⟨_,rfl⟩
  rw [← ek] at h3 h4
  have e1 : bl n - 1 = k + (p - 1):=by omega
  rw [e1] at hg
  have e2 : (2 : Nat) ^ p = 2 * 2 ^ (p - 1):=by rw [show p = (p - 1) + 1 by omega,Nat.pow_succ,Nat.add_sub_cancel]; omega
  have e3 : P2 (k + (p - 1)) = P2 k * P2 (p - 1):=by unfold P2; rw [Nat.pow_add]; exact Int.natCast_mul ..
  rw [e3] at hg
  have hb : 2 * (n - r).natAbs≤(P2 k).toNat:=by have:=Zni k; omega
  have e4 : (P2 k).toNat = 2 ^ k:=rfl
  have e5 : P2 k * P2 (p - 1) = ((2 ^ k * 2 ^ (p - 1) : Nat) : Int):=by unfold P2; exact (Int.natCast_mul ..).symm
  rw [e5] at hg
  rw [e4] at hb
  have hm:=Nat.mul_le_mul_right (2 ^ (p - 1)) hb
  rw [e2,Nat.mul_assoc,Nat.mul_comm (2 ^ (p - 1)) (n - r).natAbs,← Nat.mul_assoc]
  omega
theorem ZCK {n : Int} {k : Nat} (h : n.natAbs < 2 ^ k) : bl n≤k:=Zae.2 h
theorem Zql (F : Fm) {d : Dy} (h0 : d.m≠0) (ht : d.e + blen d.m < F.wide) : (rndW F 1 d).2≠20:=by
 have hF:=ZaM F
 have hw : F.low + F.fr + 2 < F.wide:=by cases F <;> decide
 obtain ⟨b1,_,_,_⟩:=ZjL F (md:=1) h0
 unfold rndW
 simp only [if_neg h0]
 have hE : F.eOf (d.e + blen d.m) = max (d.e + blen d.m - F.fr - 1) F.low:=rfl
 have hb : blen (rnd 1 d.n d.m d.e (F.eOf (d.e + blen d.m))).1≤F.fr + 2:=Zae.2 (by rw [Nat.pow_succ 2 (F.fr + 1)]; have:=Nat.two_pow_pos (F.fr + 1); omega)
 unfold wordOf
 rw [if_neg (by omega)]
 simp only
 split
 ·decide
 ·split <;> decide
theorem ZyU {d : Dy} {L : Int} {k : Nat} (h0 : d.m≠0) (hl : LoE d L) (h : (iv d L).natAbs < 2 ^ k) : d.e + blen d.m≤L + k:=by
 have h1:=ZCK h
 rw [Zzs,Zap h0] at h1
 have:=Znx hl h0
 omega
theorem Zkt (F : Fm) {d : Dy} (hl : LoE d F.low) {k : Nat} (h : (iv d F.low).natAbs < 2 ^ k) (hk : F.low + k < F.wide) : (sumW F 1 d).2≠20:=by
 unfold sumW
 by_cases h0 : d.m = 0
 ·rw [if_pos h0]; exact (by decide : (0 : Nat)≠20)
 ·rw [if_neg h0]
  exact Zql F h0 (by have:=ZyU h0 hl h; omega)
structure Fb (F : Fm) (w k : Nat) : Prop where
 lt : w < 2 * F.sg
 fin : F.fin w
 hi : (F.X w).natAbs < 2 ^ k
def F1 (F : Fm) : Nat:=2 ^ (F.fr + 1)
theorem ZCz {U : Nat} {n r : Int} (hU : 1≤U) (h : Rl U n r) : r.natAbs≤2 * n.natAbs:=by
 unfold Rl at h
 have : 1 * (n - r).natAbs≤U * (n - r).natAbs:=Nat.mul_le_mul_right _ hU
 omega
theorem ZrU (F : Fm) : 16777216≤F1 F:=by cases F <;> decide
theorem ZEr (F : Fm) {a b k : Nat} (ha : Fb F a k) (hb : Fb F b k) (hk : F.low + (k + 1 : Nat) < F.wide) : Fb F (addW F 1 a b).1 (k + 2)∧Rl (F1 F) (F.X a + F.X b) (F.X (addW F 1 a b).1):=by
 have hs : (F.X a + F.X b).natAbs < 2 ^ (k + 1):=by have:=ha.hi; have:=hb.hi; rw [Nat.pow_succ]; omega
 have hv : (addW F 1 a b).2≠20:=by
  unfold addW
  rw [ZjU F 1 (ZaE.1 ha.fin) (ZaE.1 hb.fin)]
  by_cases q : F.cls a = 1∧F.cls b = 1∧F.ng a = F.ng b
  ·rw [if_pos q]; exact (by decide : (0 : Nat)≠20)
  ·rw [if_neg q]
   obtain ⟨i1,i2⟩:=Zgr (Zbi ha.fin) (Zbi hb.fin)
   exact Zkt F i2 (by rw [i1]; exact hs) hk
 obtain ⟨h1,h2,h3⟩:=ZvX F ha.lt hb.lt ha.fin hb.fin hv
 have h4:=ZCB (by omega) h3
 have:=ZCz (Nat.one_le_two_pow) h4
 exact ⟨⟨h1,h2,by rw [Nat.pow_succ 2 (k + 1)]; omega⟩,h4⟩
theorem ZGF (F : Fm) {a b k : Nat} (ha : Fb F a k) (hb : Fb F b k) (hk : F.low + (k + 1 : Nat) < F.wide) : Fb F (subW F 1 a b).1 (k + 2)∧Rl (F1 F) (F.X a - F.X b) (F.X (subW F 1 a b).1):=by
 have hs : (F.X a - F.X b).natAbs < 2 ^ (k + 1):=by have:=ha.hi; have:=hb.hi; rw [Nat.pow_succ]; omega
 have hv : (subW F 1 a b).2≠20:=by
  unfold subW
  rw [ZjU F 1 (ZaE.1 ha.fin) (ZaE.1 hb.fin)]
  by_cases q : F.cls a = 1∧F.cls b = 1∧F.ng a = !F.ng b
  ·rw [if_pos q]; exact (by decide : (0 : Nat)≠20)
  ·rw [if_neg q]
   obtain ⟨i1,i2⟩:=ZnN (Zbi ha.fin) (Zbi hb.fin)
   exact Zkt F i2 (by rw [show addD (F.vl a) (negD (F.vl b)) = subD (F.vl a) (F.vl b) from rfl,i1]; exact hs) hk
 obtain ⟨h1,h2,h3⟩:=ZyL F ha.lt hb.lt ha.fin hb.fin hv
 have h4:=ZCB (by omega) h3
 have:=ZCz (Nat.one_le_two_pow) h4
 exact ⟨⟨h1,h2,by rw [Nat.pow_succ 2 (k + 1)]; omega⟩,h4⟩
def Fm.sh (F : Fm) : Nat:=(-F.low).toNat
theorem ZFR (F : Fm) {a b k : Nat} {A B : Int} (ha : Fb F a k) (hb : Fb F b k) (la : LoE (F.vl a) A) (lb : LoE (F.vl b) B) (hAB : F.low≤A + B) (hk : F.low + F.low + (2 * k : Nat) < F.wide) :
  Fb F (mulW2 F 1 a b).1 (2 * k - F.sh + 1)∧Rl (F1 F) (F.X a * F.X b) (F.X (mulW2 F 1 a b).1 * (2 ^ F.sh : Nat)):=by
 have hF:=ZaM F
 have hsh : (F.sh : Int) = -F.low:=by unfold Fm.sh; omega
 obtain ⟨i0,l0⟩:=Zgs (Zbi ha.fin) (Zbi hb.fin)
 have l1 : LoE (mulD (F.vl a) (F.vl b)) F.low:=(Zgs la lb).2.mono hAB
 have hsc:=ZiG (L':=F.low + F.low) l1 (by omega)
 rw [i0,show (F.low - (F.low + F.low)).toNat = F.sh by omega] at hsc
 change F.X a * F.X b = _ at hsc
 have hm : (F.X a * F.X b).natAbs < 2 ^ (2 * k):=by
  rw [Int.natAbs_mul,show 2 * k = k + k by omega,Nat.pow_add]
  exact Nat.mul_lt_mul'' ha.hi hb.hi
 have hlt : (iv (mulD (F.vl a) (F.vl b)) F.low).natAbs < 2 ^ (2 * k - F.sh):=by
  rw [hsc,Int.natAbs_mul,Int.natAbs_natCast] at hm
  by_cases hks : F.sh≤2 * k
  ·rw [show 2 * k = (2 * k - F.sh) + F.sh by omega,Nat.pow_add] at hm
   exact Nat.lt_of_mul_lt_mul_right hm
  ·have h0 : (iv (mulD (F.vl a) (F.vl b)) F.low).natAbs = 0:=by
    rcases Nat.eq_zero_or_pos (iv (mulD (F.vl a) (F.vl b)) F.low).natAbs with q | q
    ·exact q
    ·exfalso
     have h1 : 1 * 2 ^ F.sh≤(iv (mulD (F.vl a) (F.vl b)) F.low).natAbs * 2 ^ F.sh:=Nat.mul_le_mul_right _ q
     have h2 : 2 ^ (2 * k)≤2 ^ F.sh:=Nat.pow_le_pow_right (by decide) (by omega)
     omega
   rw [h0]; exact Nat.two_pow_pos _
 by_cases hz : F.cls a = 1∨F.cls b = 1
 ·have e : mulW2 F 1 a b = (F.sgn (F.ng a != F.ng b),0):=by unfold mulW2; rw [ZpV F 1 (ZaE.1 ha.fin) (ZaE.1 hb.fin),if_pos hz]
  have hx : F.X a * F.X b = 0:=by
   rcases hz with q | q
   ·rw [ZiX ha.lt q,Int.zero_mul]
   ·rw [ZiX hb.lt q,Int.mul_zero]
  rw [e,hx]
  obtain ⟨g1,g2,_⟩:=ZjP F (F.ng a != F.ng b)
  refine ⟨⟨g1,g2,?_⟩,?_⟩
  ·show (F.X (F.sgn (F.ng a != F.ng b))).natAbs < _
   rw [ZvU]; exact Nat.two_pow_pos _
  ·show Rl _ _ (F.X (F.sgn (F.ng a != F.ng b)) * _)
   rw [ZvU,Int.zero_mul]; exact ZCA _
 ·have e : mulW2 F 1 a b = sumW F 1 (mulD (F.vl a) (F.vl b)):=by unfold mulW2; rw [ZpV F 1 (ZaE.1 ha.fin) (ZaE.1 hb.fin),if_neg hz]
  rw [e]
  obtain ⟨h1,h2,h3⟩:=ZuS F l1 (Zkt F l1 hlt (by omega))
  have h4:=ZCB (by omega) h3
  have h5:=ZCz (Nat.one_le_two_pow) h4
  refine ⟨⟨h1,h2,by rw [Nat.pow_succ]; omega⟩,?_⟩
  rw [hsc]
  unfold Rl at h4 ⊢
  rw [← Int.sub_mul,Int.natAbs_mul,Int.natAbs_mul,Int.natAbs_natCast,← Nat.mul_assoc]
  exact Nat.mul_le_mul_right _ h4
def Fm.lo (F : Fm) : Nat:=F.fr + F.wlo - 1
def Fm.hi (F : Fm) : Nat:=F.fr + F.whi
theorem Zmb {F : Fm} {w : Nat} (hw : w < 2 * F.sg) (h : inW F w) : Fb F w F.hi∧2 ^ F.lo≤(F.X w).natAbs∧LoE (F.vl w) (F.wlo - 1 + F.low):=by
 have hF:=ZaM F
 have hm : F.whi < F.most∧1≤F.wlo∧F.wlo≤F.whi:=by cases F <;> decide
 obtain ⟨h1,h2⟩:=h
 have hf : F.fin w:=by unfold Fm.fin; omega
 have hfc : F.fc w < 2 ^ F.fr:=by unfold Fm.fc; exact Nat.mod_lt _ (Nat.two_pow_pos _)
 have hv : F.vl w = mkD (F.ng w) (2 ^ F.fr + F.fc w) (F.ex w - 1 + F.low):=by
  rw [ZcV hf]; unfold Fm.val; rw [if_neg (by omega)]
 have hx : F.X w = (if F.ng w then -1 else 1) * (((2 ^ F.fr + F.fc w) * 2 ^ (F.ex w - 1) : Nat) : Int):=by
  unfold Fm.X
  rw [hv,Zhr (by omega),show ((F.ex w : Int) - 1 + F.low - F.low).toNat = F.ex w - 1 by omega]
 have ha : (F.X w).natAbs = (2 ^ F.fr + F.fc w) * 2 ^ (F.ex w - 1):=by
  rw [hx,Int.natAbs_mul,Int.natAbs_natCast]
  cases F.ng w <;> simp
 refine ⟨⟨hw,hf,?_⟩,?_,?_⟩
 ·rw [ha]
  have e1 : (2 ^ F.fr + F.fc w) * 2 ^ (F.ex w - 1) < 2 ^ (F.fr + 1) * 2 ^ (F.ex w - 1):=Nat.mul_lt_mul_of_pos_right (by rw [Nat.pow_succ]; omega) (Nat.two_pow_pos _)
  rw [← Nat.pow_add] at e1
  exact Nat.lt_of_lt_of_le e1 (Nat.pow_le_pow_right (by decide) (by unfold Fm.hi; omega))
 ·rw [ha]
  have e1 : 2 ^ F.fr * 2 ^ (F.ex w - 1)≤(2 ^ F.fr + F.fc w) * 2 ^ (F.ex w - 1):=Nat.mul_le_mul_right _ (Nat.le_add_right _ _)
  rw [← Nat.pow_add] at e1
  exact Nat.le_trans (Nat.pow_le_pow_right (by decide) (by unfold Fm.lo; omega)) e1
 ·rw [hv]; exact ZcU (by omega)
theorem ZEm (k : Nat) {x : Int} : P2 k ∣ x↔2 ^ k ∣ x.natAbs:=by
 unfold P2
 have h : ((2 ^ k : Nat) : Int).natAbs = 2 ^ k:=Int.natAbs_natCast _
 constructor
 ·intro q; have:=Int.natAbs_dvd_natAbs.2 q; rwa [h] at this
 ·intro q; exact Int.natAbs_dvd_natAbs.1 (by rw [h]; exact q)
theorem ZEU {k : Nat} {x : Int} (h : P2 k ∣ x) (h0 : x≠0) : 2 ^ k≤x.natAbs:=Nat.le_of_dvd (by omega) ((ZEm k).1 h)
theorem Rn.dvd {p i : Nat} {n r : Int} (h : Rn p n r) (hi : P2 i ∣ n) : P2 i ∣ r:=by
 by_cases hk : bl n - p≤i
 ·rw [h.exact hi hk]; exact hi
 ·exact Int.dvd_trans (Znh (by omega)) h.2.1
theorem ZCJ {k : Nat} {n : Int} (h : 2 ^ k≤n.natAbs) : k + 1≤bl n:=by
 have : k < blen n.natAbs:=ZaA.2 h
 exact this
theorem ZEn {U : Nat} {n r : Int} (hU : 2≤U) (h : Rl U n r) : n.natAbs≤2 * r.natAbs:=by
 unfold Rl at h
 have : 2 * (n - r).natAbs≤U * (n - r).natAbs:=Nat.mul_le_mul_right _ hU
 omega
def Fm.pl (F : Fm) : Nat:=2 * F.lo - F.sh
def Fm.pj (F : Fm) : Nat:=F.pl - F.fr
def Fm.ph (F : Fm) : Nat:=2 * F.hi - F.sh + 1
theorem ZkU (F : Fm) : F.sh≤2 * F.lo∧F.low≤(F.wlo - 1 + F.low) + (F.wlo - 1 + F.low)∧F.low + F.low + (2 * F.hi : Nat) < F.wide∧F.fr≤F.pl∧F.low + (F.ph + 5 : Nat) < F.wide∧F.low + F.fr + 1≤(F.pj : Int) + 1 - (F.ph + 2 : Nat)∧((F.ph + 2 : Nat) : Int) - ((F.pl - 2 : Nat) : Int) < F.wide∧(F.sh : Int) = -F.low∧F.pl≤F.ph∧2≤F.pl:=by cases F <;> decide
theorem ZcA {F : Fm} {a b : Nat} (ha : a < 2 * F.sg) (hb : b < 2 * F.sg) (wa : inW F a) (wb : inW F b) :
  Fb F (mulW2 F 1 a b).1 F.ph∧Rl (F1 F) (F.X a * F.X b) (F.X (mulW2 F 1 a b).1 * (2 ^ F.sh : Nat))∧2 ^ F.pl≤2 * (F.X (mulW2 F 1 a b).1).natAbs∧P2 F.pj ∣ F.X (mulW2 F 1 a b).1:=by
 obtain ⟨fa,la,ea⟩:=Zmb ha wa
 obtain ⟨fb,lb,eb⟩:=Zmb hb wb
 obtain ⟨n1,n2,n3,n4,_⟩:=ZkU F
 obtain ⟨h1,h2⟩:=ZFR F fa fb ea eb n2 n3
 have hlo : 2 ^ F.pl * 2 ^ F.sh≤(F.X a * F.X b).natAbs:=by
  rw [← Nat.pow_add,Int.natAbs_mul,show F.pl + F.sh = F.lo + F.lo by unfold Fm.pl; omega,Nat.pow_add]
  exact Nat.mul_le_mul la lb
 have h3:=ZEn (Nat.le_trans (by decide) (ZrU F)) h2
 refine ⟨h1,h2,?_,?_⟩
 ·rw [Int.natAbs_mul (F.X (mulW2 F 1 a b).1),Int.natAbs_natCast,← Nat.mul_assoc] at h3
  exact Nat.le_of_mul_le_mul_right (Nat.le_trans hlo h3) (Nat.two_pow_pos _)
 ·-- its last place
  obtain ⟨i0,l0⟩:=Zgs (Zbi fa.fin) (Zbi fb.fin)
  have l1 : LoE (mulD (F.vl a) (F.vl b)) F.low:=(Zgs ea eb).2.mono n2
  have hF:=ZaM F
  have hsh : (F.sh : Int) = -F.low:=by unfold Fm.sh; omega
  have hsc:=ZiG (L':=F.low + F.low) l1 (by omega)
  rw [i0,show (F.low - (F.low + F.low)).toNat = F.sh by omega] at hsc
  change F.X a * F.X b = _ at hsc
  have hlt : (iv (mulD (F.vl a) (F.vl b)) F.low).natAbs < 2 ^ (2 * F.hi - F.sh):=by
   have hm : (F.X a * F.X b).natAbs < 2 ^ (2 * F.hi):=by
    rw [Int.natAbs_mul,show 2 * F.hi = F.hi + F.hi by omega,Nat.pow_add]
    exact Nat.mul_lt_mul'' fa.hi fb.hi
   rw [hsc,Int.natAbs_mul,Int.natAbs_natCast,show 2 * F.hi = (2 * F.hi - F.sh) + F.sh by
                                                have : F.lo≤F.hi:=by cases F <;> decide
                                                omega,Nat.pow_add] at hm
   exact Nat.lt_of_mul_lt_mul_right hm
  have ne : ¬ (F.cls a = 1∨F.cls b = 1):=by
   intro q
   have : F.X a * F.X b = 0:=by
    rcases q with q | q
    ·rw [ZiX ha q,Int.zero_mul]
    ·rw [ZiX hb q,Int.mul_zero]
   rw [this] at hlo
   have:=Nat.mul_pos (Nat.two_pow_pos F.pl) (Nat.two_pow_pos F.sh)
   simp only [Int.natAbs_zero] at hlo
   omega
  have e : mulW2 F 1 a b = sumW F 1 (mulD (F.vl a) (F.vl b)):=by unfold mulW2; rw [ZpV F 1 (ZaE.1 fa.fin) (ZaE.1 fb.fin),if_neg ne]
  rw [e]
  obtain ⟨_,_,r3⟩:=ZuS F l1 (Zkt F l1 hlt (by have:=n3; omega))
  have hb:=ZCJ (k:=F.pl) (n:=iv (mulD (F.vl a) (F.vl b)) F.low) (by
   rw [hsc,Int.natAbs_mul,Int.natAbs_natCast] at hlo
   exact Nat.le_of_mul_le_mul_right hlo (Nat.two_pow_pos _))
  exact Int.dvd_trans (Znh (by unfold Fm.pj; omega)) r3.2.1
theorem ZAc {neg : Bool} (Q : Nat) (s : Bool) {k : Nat} (hk : 0 < k) : 2 * ((rdN 1 neg Q s k).1 * 2 ^ k)≤2 * Q + 2 ^ k∧2 * Q≤2 * ((rdN 1 neg Q s k).1 * 2 ^ k) + 2 ^ k:=by
 obtain ⟨q1,q2,q3⟩:=ZhK Q hk
 have hd:=Nat.div_add_mod Q (2 ^ k)
 have hK : (rdN 1 neg Q s k).1 = Q / 2 ^ k + (halfN Q k && (moreN Q s k || decide (Q / 2 ^ k % 2 = 1))).toNat:=rfl
 have hm : moreN Q s k = (s || decide (Q % 2 ^ (k - 1)≠0)):=rfl
 rw [hK,Nat.add_mul,Nat.mul_comm (Q / 2 ^ k)]
 generalize 2 ^ k * (Q / 2 ^ k) = A at *
 generalize 2 ^ k = B at *
 generalize 2 ^ (k - 1) = C at *
 cases h : halfN Q k
 ·rw [h] at q1
  simp only [Bool.false_and,Bool.toNat_false,Nat.zero_mul,Nat.add_zero]
  simp only [Bool.false_eq_true,if_false] at q1
  omega
 ·rw [h] at q1
  simp only [if_true] at q1
  rw [hm]
  by_cases g : ((s || decide (Q % C≠0)) || decide (Q / B % 2 = 1)) = true
  ·rw [g]; simp only [Bool.and_self,Bool.toNat_true,Nat.one_mul]; omega
  ·rw [Bool.not_eq_true] at g
   rw [g]
   simp only [Bool.or_eq_false_iff,decide_eq_false_iff_not,ne_eq,Decidable.not_not] at g
   simp only [Bool.and_false,Bool.toNat_false,Nat.zero_mul,Nat.add_zero]
   omega
theorem Zys (F : Fm) (neg : Bool) {Q : Nat} (lost : Bool) (E : Int) (hq : F.fr + 2≤blen Q) (h1 : F.low + F.fr + 1≤E + blen Q) (h2 : E + blen Q < F.wide) :
  (sW F 1 neg Q lost E).1 < 2 * F.sg∧F.fin (sW F 1 neg Q lost E).1∧∀ L,L≤F.low→L≤E→LoE (F.vl (sW F 1 neg Q lost E).1) L∧∃ m : Nat,iv (F.vl (sW F 1 neg Q lost E).1) L = (if neg then -1 else 1) * (m : Int) ∧
   F1 F * m≤F1 F * (Q * 2 ^ (E - L).toNat) + Q * 2 ^ (E - L).toNat∧F1 F * (Q * 2 ^ (E - L).toNat)≤F1 F * m + Q * 2 ^ (E - L).toNat:=by
 have hF:=ZaM F
 have hi:=ZcM F
 unfold sW
 obtain ⟨u,hu⟩ : ∃ u,u = F.eOf (E + blen Q):=⟨_,rfl⟩
 have hue : u = max (E + blen Q - F.fr - 1) F.low:=hu
 rw [← hu]
 obtain ⟨kk,hkk⟩ : ∃ kk,kk = (u - E).toNat:=⟨_,rfl⟩
 rw [← hkk]
 have k0 : 0 < kk:=by omega
 have hkk2 : kk + F.fr + 1 = blen Q:=by omega
 have hK : (rdN 1 neg Q lost kk).1 = Q / 2 ^ kk + (upB 1 neg (decide (Q / 2 ^ kk % 2 = 1)) (halfN Q kk) (moreN Q lost kk)).toNat:=rfl
 have hbt : ∀ b : Bool,b.toNat≤1:=fun b => by cases b <;> decide
 have hbd : (rdN 1 neg Q lost kk).1≤2 ^ (F.fr + 1):=by
  rw [hK]
  have hb1 : blen (Q / 2 ^ kk)≤F.fr + 1:=by rw [Zam]; omega
  have:=Zae.1 hb1
  have:=hbt (upB 1 neg (decide (Q / 2 ^ kk % 2 = 1)) (halfN Q kk) (moreN Q lost kk))
  omega
 have hlo2 : u = F.low∨2 ^ F.fr≤(rdN 1 neg Q lost kk).1:=by
  right
  have : 2 ^ F.fr≤Q / 2 ^ kk:=ZaA.1 (by rw [Zam]; omega)
  rw [hK]; omega
 have hbig:=ZkF F (n:=(rdN 1 neg Q lost kk).1) (u:=u) hbd (by omega) hlo2
 have hbl : blen (rdN 1 neg Q lost kk).1≤F.fr + 2:=Zae.2 (by rw [Nat.pow_succ 2 (F.fr + 1)]; have:=Nat.two_pow_pos (F.fr + 1); omega)
 have hs : F.enc (rdN 1 neg Q lost kk).1 u < F.i0:=by
  rcases Nat.lt_or_ge (F.enc (rdN 1 neg Q lost kk).1 u) F.i0 with q | q
  ·exact q
  ·have:=hbig.2 q; omega
 have hov : ¬ F.wide < blen (rdN 1 neg Q lost kk).1 + u:=by omega
 have hmag:=Zlv F hbd (by omega) hlo2
 obtain ⟨r1,r2⟩:=ZAc (neg:=neg) Q lost k0
 unfold wordOf
 rw [if_neg hov]
 generalize (rdN 1 neg Q lost kk).1 = K at *
 refine ⟨by unfold Fm.sgn; simp only; split <;> omega,Zbw neg hs,fun L hL1 hL2 => ?_⟩
 obtain ⟨v1,v2⟩:=Zlt (F:=F) neg hs hL1
 simp only
 rw [ZcV (Zbw neg hs)]
 refine ⟨v2,K * 2 ^ kk * 2 ^ (E - L).toNat,?_,?_⟩
 ·rw [v1,hmag,units (K:=K) (u:=u) (E:=E) (kk:=kk) (by omega) hL2 (by omega) hL1]
 ·have hQ : 2 ^ (kk + F.fr)≤Q:=ZaA.1 (by omega)
  have e1 : F1 F * 2 ^ kk = 2 * 2 ^ (kk + F.fr):=by
   unfold F1
   rw [← Nat.pow_add,show F.fr + 1 + kk = (kk + F.fr) + 1 by omega,Nat.pow_succ]; omega
  have a1 : F1 F * (2 * (K * 2 ^ kk))≤F1 F * (2 * Q + 2 ^ kk):=Nat.mul_le_mul_left _ r1
  have a2 : F1 F * (2 * Q)≤F1 F * (2 * (K * 2 ^ kk) + 2 ^ kk):=Nat.mul_le_mul_left _ r2
  rw [Nat.mul_add,e1] at a1 a2
  have b1 : F1 F * (K * 2 ^ kk)≤F1 F * Q + Q:=by
   rw [Nat.mul_left_comm,Nat.mul_left_comm (F1 F) 2 Q] at a1; omega
  have b2 : F1 F * Q≤F1 F * (K * 2 ^ kk) + Q:=by
   rw [Nat.mul_left_comm,Nat.mul_left_comm (F1 F) 2 (K * 2 ^ kk)] at a2; omega
  have c1:=Nat.mul_le_mul_right (2 ^ (E - L).toNat) b1
  have c2:=Nat.mul_le_mul_right (2 ^ (E - L).toNat) b2
  rw [Nat.add_mul,Nat.mul_assoc (F1 F),Nat.mul_assoc (F1 F)] at c1 c2
  exact ⟨c1,c2⟩
end Go.Cv
