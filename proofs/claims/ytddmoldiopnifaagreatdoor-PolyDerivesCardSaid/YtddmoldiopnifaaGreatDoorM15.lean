/-
 A part of the proof of the statements of this seat (texts that the law's own text leans on): no condition.
-/
import Derived.Test.YtddmoldiopnifaaGreatDoorM14
import Derived.Test.YtddmoldiopnifaaGreatDoorM13
import Derived.Test.YtddmoldiopnifaaGreatDoorM11
import Derived.Test.YtddmoldiopnifaaGreatDoorM6
set_option linter.unusedVariables false
set_option linter.unusedSimpArgs false
namespace Go.Cv
theorem ZuN (F : Fm) (n : Bool) {k : Nat} {u : Int} (hk0 : k≠0) (hk1 : k < 2 ^ (F.fr + 1)) (hu : F.low≤u) (hku : u = F.low∨2 ^ F.fr≤k) (hs : F.enc k u < F.i0) : F.val (F.enc k u + F.sgn n) = mkD n k u:=by
 have hi:=ZdJ F
 obtain ⟨e1,e2⟩:=ZcR n (by omega : F.enc k u < F.sg)
 have hp:=Nat.two_pow_pos F.fr
 rw [Nat.pow_succ] at hk1
 unfold Fm.val Fm.ex Fm.fc
 rw [e1,e2]
 rcases Nat.lt_or_ge k (2 ^ F.fr) with h | h
 ·have hul : u = F.low:=by
   rcases hku with q | q
   ·exact q
   ·omega
  have hE : F.enc k u = k:=by unfold Fm.enc; rw [hul,Int.sub_self]; simp
  rw [hE,Nat.div_eq_of_lt h,if_pos rfl,Nat.mod_eq_of_lt h,hul]
 ·have hE : F.enc k u = (k - 2 ^ F.fr) + 2 ^ F.fr * ((u - F.low).toNat + 1):=by
   unfold Fm.enc; rw [Nat.mul_add,Nat.mul_one,Nat.mul_comm]; omega
  have hlt : k - 2 ^ F.fr < 2 ^ F.fr:=by omega
  have hd : F.enc k u / 2 ^ F.fr = (u - F.low).toNat + 1:=by
   rw [hE,Nat.add_mul_div_left _ _ hp,Nat.div_eq_of_lt hlt,Nat.zero_add]
  have hm : F.enc k u % 2 ^ F.fr = k - 2 ^ F.fr:=by
   rw [hE,Nat.add_mul_mod_self_left,Nat.mod_eq_of_lt hlt]
  rw [hd,hm,if_neg (by omega),show 2 ^ F.fr + (k - 2 ^ F.fr) = k by omega]
  congr 1
  omega
theorem ZBH (F : Fm) {d : Dy} (h : F.fits d) (ho : d.m % 2 = 1) : ∃ s,s≠0∧s < F.i0∧F.val (s + F.sgn d.n) = d:=by
 obtain ⟨h0,h1,h2,h3⟩:=h
 have hF:=Zba F
 obtain ⟨u,hu⟩ : ∃ u : Int,u = max (d.e + blen d.m - F.fr - 1) F.low:=⟨_,rfl⟩
 have hbp:=Zcz h0
 have hbk:=Zan h0 (d.e - u).toNat
 have hk0 : d.m * 2 ^ (d.e - u).toNat≠0:=by intro hc; rw [hc,Zai] at hbk; omega
 have hk1 : d.m * 2 ^ (d.e - u).toNat < 2 ^ (F.fr + 1):=Zaf.1 (by omega)
 have hku : u = F.low∨2 ^ F.fr≤d.m * 2 ^ (d.e - u).toNat:=by
  by_cases q : u = F.low
  ·exact Or.inl q
  ·right; exact ZaR.1 (by omega)
 have hbig:=Zmx F (n:=d.m * 2 ^ (d.e - u).toNat) (u:=u) (by omega) (by omega) hku
 have hs : F.enc (d.m * 2 ^ (d.e - u).toNat) u < F.i0:=by
  rcases Nat.lt_or_ge (F.enc (d.m * 2 ^ (d.e - u).toNat) u) F.i0 with q | q
  ·exact q
  ·have:=hbig.2 q; omega
 refine ⟨F.enc (d.m * 2 ^ (d.e - u).toNat) u,?_,hs,?_⟩
 ·unfold Fm.enc; omega
 ·rw [ZuN F d.n hk0 hk1 (by omega) hku hs]
  have:=ZlR (n:=d.n) (e:=d.e) ho (d.e - u).toNat
  rw [show d.e - ((d.e - u).toNat : Int) = u by omega] at this
  exact this
theorem ZlK (F : Fm) {w : Nat} (hf : F.fin w) (h0 : (F.val w).m≠0) : F.fits (F.val w):=by
 have hF:=Zba F
 have hwd : F.low + F.fr + F.most - 1 = F.wide:=by cases F <;> decide
 have hy : F.fc w < 2 ^ F.fr:=Nat.mod_lt _ (Nat.two_pow_pos _)
 unfold Fm.fin at hf
 unfold Fm.val at h0 ⊢
 by_cases hx : F.ex w = 0
 ·rw [if_pos hx] at h0 ⊢
  have hk : F.fc w≠0:=by intro hc; rw [hc] at h0; exact h0 rfl
  have hb:=Zaf.2 hy
  exact Zmb hk (by rw [Nat.pow_succ]; omega) (Int.le_refl _) (by omega)
 ·rw [if_neg hx] at h0 ⊢
  have hk : 2 ^ F.fr + F.fc w≠0:=by have:=Nat.two_pow_pos F.fr; omega
  have hb : blen (2 ^ F.fr + F.fc w)≤F.fr + 1:=Zaf.2 (by rw [Nat.pow_succ]; omega)
  exact Zmb hk (by rw [Nat.pow_succ]; omega) (by omega) (by omega)
theorem sterbenz (F : Fm) {x y : Dy} (fx : x.m≠0→F.fits x) (fy : y.m≠0→F.fits y) (hn : x.n = y.n) (h1 : cmpD (absD x) (shD (absD y) 1)≤0) (h2 : cmpD (absD y) (shD (absD x) 1)≤0) (h0 : (subD x y).m≠0) : F.fits (subD x y):=by
 obtain ⟨L,hL⟩ : ∃ L : Int,L = min x.e y.e:=⟨_,rfl⟩
 have lx : LoE x L:=Or.inr (by omega)
 have ly : LoE y L:=Or.inr (by omega)
 have sh : ∀ (d : Dy) (h : LoE d L),iv (shD (absD d) 1) L = 2 * ((d.m * 2 ^ (d.e - L).toNat : Nat) : Int)∧LoE (shD (absD d) 1) L:=fun d h => by
  unfold shD absD
  by_cases q : d.m = 0
  ·simp only [q,if_true]; exact ⟨by simp [iv],Or.inl rfl⟩
  ·simp only [q,if_false]
   have hl:=h.resolve_left q
   refine ⟨?_,Or.inr (by simp only; omega)⟩
   unfold iv
   simp only [Bool.false_eq_true,if_false,Int.one_mul]
   rw [show (d.e + 1 - L).toNat = (d.e - L).toNat + 1 by omega,Nat.pow_succ,← Nat.mul_assoc]; omega
 have la : ∀ (d : Dy) (h : LoE d L),LoE (absD d) L:=fun d h => h
 rw [Zou (la x lx) (sh y ly).2,ZDV,(sh y ly).1] at h1
 rw [Zou (la y ly) (sh x lx).2,ZDV,(sh x lx).1] at h2
 have hs:=ZiS lx (ZrD ly)
 rw [Zwy] at hs
 rw [show addD x (negD y) = subD x y from rfl] at hs
 obtain ⟨hs1,hs2⟩:=hs
 have hle:=hs2.resolve_left h0
 unfold iv at hs1
 rw [hn] at hs1
 generalize hD : (subD x y).m * 2 ^ ((subD x y).e - L).toNat = D at *
 generalize hX : x.m * 2 ^ (x.e - L).toNat = X at *
 generalize hY : y.m * 2 ^ (y.e - L).toNat = Y at *
 have g1 : (X : Int)≤2 * Y:=by
  unfold sgI at h1; split at h1
  ·omega
  ·split at h1 <;> omega
 have g2 : (Y : Int)≤2 * X:=by
  unfold sgI at h2; split at h2
  ·omega
  ·split at h2 <;> omega
 have dX : D≤X∧D≤Y:=by
  generalize (subD x y).n = p at *
  generalize y.n = q at *
  cases p <;> cases q <;> simp only [Bool.false_eq_true,if_false,if_true] at hs1 <;> omega
 have Dp : 0 < D:=by rw [← hD]; exact Nat.mul_pos (Nat.pos_of_ne_zero h0) (Nat.two_pow_pos _)
 have x0 : x.m≠0:=by intro hc; rw [hc,Nat.zero_mul] at hX; omega
 have y0 : y.m≠0:=by intro hc; rw [hc,Nat.zero_mul] at hY; omega
 obtain ⟨_,x1,x2,x3⟩:=fx x0
 obtain ⟨_,y1,y2,y3⟩:=fy y0
 have bD:=Zan h0 ((subD x y).e - L).toNat
 have bX:=Zan x0 (x.e - L).toNat
 have bY:=Zan y0 (y.e - L).toNat
 rw [hD] at bD
 rw [hX] at bX
 rw [hY] at bY
 have m1:=Zam dX.1
 have m2:=Zam dX.2
 exact ⟨h0,by omega,by omega,by omega⟩
end Go.Cv
namespace Go.Cv
variable {G : Nat→Option (List AV)} {T : Tbl} {g : Nat}
theorem ZBp (F : Fm) (md : Int) {a b : Nat} (fa : F.fin a) (fb : F.fin b) :
  (F.cls a = 1∧F.cls b = 1∧subW F md a b = (F.sgn (F.ng a),0))∨subW F md a b = sumW F md (subD (F.vl a) (F.vl b)):=by
 have ra:=Zag.1 fa
 have rb:=Zag.1 fb
 unfold subW addP
 rw [if_neg (show ¬ (F.cls a = 5∨F.cls b = 5) by omega),if_neg (show ¬ (F.cls a = 4∧F.cls b = 4∧F.ng a≠!F.ng b) from fun h => by have:=h.1; omega),if_neg (show ¬ F.cls a = 4 by omega),if_neg (show ¬ F.cls b = 4 by omega)]
 by_cases h : F.cls a = 1∧F.cls b = 1∧F.ng a = !F.ng b
 ·left; rw [if_pos h]; exact ⟨h.1,h.2.1,rfl⟩
 ·right; rw [if_neg h]; rfl
theorem ZEY (F : Fm) {md : Int} {d : Dy} (hz : Nz d) (hf : d.m≠0→F.fits d) : ∃ w : Nat,sumW F md d = (w,0)∧w < 2 * F.sg∧F.fin w∧F.val w = d:=by
 have hi:=ZdJ F
 unfold sumW
 by_cases h0 : d.m = 0
 ·rw [if_pos h0]
  refine ⟨F.sgn (decide (md = 5)),rfl,?_,?_,?_⟩
  ·unfold Fm.sgn; split <;> omega
  ·have:=Zdl (F:=F) (s:=0) (decide (md = 5)) hi.2.1
   rwa [Nat.zero_add] at this
  ·have:=ZoT F (decide (md = 5))
   rw [Nat.zero_add] at this
   rw [this,hz.1 h0]
 ·rw [if_neg h0]
  obtain ⟨s,s0,s1,s2⟩:=ZBH F (hf h0) (hz.2 h0)
  have hr:=(Zla F md d.n s1 s0).1
  rw [s2] at hr
  refine ⟨s + F.sgn d.n,hr,?_,Zdl d.n s1,s2⟩
  unfold Fm.sgn; split <;> omega
theorem near (F : Fm) {md : Int} {a b : Nat} (ha : a < 2 * F.sg) (hb : b < 2 * F.sg) (fa : F.fin a) (fb : F.fin b) (hn : (F.vl a).n = (F.vl b).n) (h1 : cmpD (absD (F.vl a)) (shD (absD (F.vl b)) 1)≤0) (h2 : cmpD (absD (F.vl b)) (shD (absD (F.vl a)) 1)≤0) :
  ∃ w : Nat,subW F md a b = (w,0)∧w < 2 * F.sg∧F.fin w∧F.val w = subD (F.vl a) (F.vl b):=by
 have hi:=ZdJ F
 rcases ZBp F md fa fb with ⟨k1,k2,h⟩ | h
 ·rw [h]
  refine ⟨F.sgn (F.ng a),rfl,?_,?_,?_⟩
  ·unfold Fm.sgn; split <;> omega
  ·have:=Zdl (F:=F) (s:=0) (F.ng a) hi.2.1
   rwa [Nat.zero_add] at this
  ·have:=ZoT F (F.ng a)
   rw [Nat.zero_add] at this
   rw [this,Zbm fa,Zbm fb,(Zhl ha k1).2,(Zhl hb k2).2]; rfl
 ·rw [h]
  refine ZEY F (Zgz (ZbJ F a) (Zwi (ZbJ F b))) (sterbenz F ?_ ?_ hn h1 h2)
  ·intro q; rw [Zbm fa] at q ⊢; exact ZlK F fa q
  ·intro q; rw [Zbm fb] at q ⊢; exact ZlK F fb q
def P2 (k : Nat) : Int:=((2 ^ k : Nat) : Int)
theorem Zzd (k : Nat) : 0 < P2 k:=by unfold P2; have:=Nat.two_pow_pos k; omega
theorem ZyT {i k : Nat} (h : i≤k) : P2 i ∣ P2 k:=by
 unfold P2; exact Int.natCast_dvd_natCast.2 (Nat.pow_dvd_pow 2 h)
def bl (n : Int) : Nat:=blen n.natAbs
theorem ZIv {n : Int} {k : Nat} : bl n≤k↔(n < P2 k∧-n < P2 k):=by
 unfold bl P2; rw [Zaf]; omega
theorem ZIC {n : Int} (h : n≠0) : P2 (bl n - 1)≤n∨P2 (bl n - 1)≤-n:=by
 unfold bl P2; have:=Zbc (n:=n.natAbs) (by omega); omega
theorem ZDg (n : Int) : bl (-n) = bl n:=by unfold bl; rw [Int.natAbs_neg]
theorem Ztd {k : Nat} {x : Int} (h : P2 k ∣ x) (h1 : x < P2 k) (h2 : -x < P2 k) : x = 0:=by
 obtain ⟨q,rfl⟩:=h
 have hp:=Zzd k
 rcases Int.lt_trichotomy q 0 with hq | hq | hq
 ·have:=Int.mul_le_mul_of_nonneg_left (show q≤-1 by omega) (Int.le_of_lt hp); omega
 ·rw [hq,Int.mul_zero]
 ·have:=Int.mul_le_mul_of_nonneg_left (show 1≤q by omega) (Int.le_of_lt hp); omega
def Rep (p : Nat) (n : Int) : Prop:=P2 (bl n - p) ∣ n
def Rn (p : Nat) (n r : Int) : Prop:=Rep p r∧P2 (bl n - p) ∣ r∧2 * (r - n)≤P2 (bl n - p)∧2 * (n - r)≤P2 (bl n - p)
theorem Rep.neg {p : Nat} {n : Int} (h : Rep p n) : Rep p (-n):=by
 unfold Rep at h ⊢; rw [ZDg]; exact Int.dvd_neg.2 h
theorem Rn.neg {p : Nat} {n r : Int} (h : Rn p n r) : Rn p (-n) (-r):=by
 obtain ⟨h0,h1,h2,h3⟩:=h
 unfold Rn; rw [ZDg]
 exact ⟨h0.neg,Int.dvd_neg.2 h1,by omega,by omega⟩
theorem Rn.exact {p : Nat} {n r : Int} (h : Rn p n r) {i : Nat} (hi : P2 i ∣ n) (hk : bl n - p≤i) : r = n:=by
 obtain ⟨_,h1,h2,h3⟩:=h
 have hp:=Zzd (bl n - p)
 have:=Ztd (Int.dvd_sub h1 (Int.dvd_trans (ZyT hk) hi)) (by omega) (by omega)
 omega
theorem Rn.near {p : Nat} (hp : 1≤p) {n r c : Int} (h : Rn p n r) (hc : Rep p c) : r - n≤(c - n).natAbs∧n - r≤(c - n).natAbs:=by
 have key : ∀ c,P2 (bl n - p) ∣ c→r - n≤(c - n).natAbs∧n - r≤(c - n).natAbs:=fun c hc => by
  obtain ⟨_,h1,h2,h3⟩:=h
  by_cases q : r = c
  ·subst q; omega
  ·have hd:=Int.dvd_sub h1 hc
   have hs : ¬ (r - c < P2 (bl n - p)∧-(r - c) < P2 (bl n - p)):=fun q1 => q (by have:=Ztd hd q1.1 q1.2; omega)
   omega
 by_cases q : bl n - p≤bl c - p
 ·exact key c (Int.dvd_trans (ZyT q) hc)
 ·have hb : bl c≤bl n - 1:=by omega
  have hn0 : n≠0:=by rintro rfl; have : bl 0 = 0:=rfl; omega
  have hc1:=ZIv.1 hb
  have hd : P2 (bl n - p) ∣ P2 (bl n - 1):=ZyT (by omega)
  have k1:=key _ hd
  have k2:=key _ (Int.dvd_neg.2 hd)
  have hpp:=Zzd (bl n - 1)
  rcases ZIC hn0 with h4 | h4 <;> omega
theorem ZrS (d : Dy) (L : Int) : (iv d L = ((d.m * 2 ^ (d.e - L).toNat : Nat) : Int)∧d.n = false)∨(iv d L = -((d.m * 2 ^ (d.e - L).toNat : Nat) : Int)∧d.n = true):=by
 unfold iv; cases d.n <;> simp
def Fm.X (F : Fm) (w : Nat) : Int:=iv (F.vl w) F.low
theorem ZkQ {F : Fm} {w : Nat} (hf : F.fin w) : LoE (F.vl w) F.low:=by
 by_cases h : (F.vl w).m = 0
 ·exact Or.inl h
 ·right; rw [Zbm hf] at h ⊢; exact (ZlK F hf h).2.2.1
theorem ZAF (F : Fm) (n : Bool) : F.sgn n < 2 * F.sg∧F.fin (F.sgn n)∧F.vl (F.sgn n) = ⟨false,0,0⟩:=by
 have hi:=ZdJ F
 have h:=Zdl (F:=F) (s:=0) n hi.2.1
 have h2:=ZoT F n
 rw [Nat.zero_add] at h h2
 exact ⟨by unfold Fm.sgn; split <;> omega,h,by rw [Zbm h,h2]⟩
theorem ZoV (F : Fm) (md : Int) {c c' : Int} {n n' : Bool} {d d' : Dy} (h1 : c = 1∨c = 2∨c = 3) (h2 : c' = 1∨c' = 2∨c' = 3) :
  addP F md c n d c' n' d' = if c = 1∧c' = 1∧n = n' then (F.sgn n,0) else sumW F md (addD d d'):=by
 unfold addP
 rw [if_neg (by omega),if_neg (by omega),if_neg (by omega),if_neg (by omega)]
theorem ZbO {F : Fm} {w : Nat} (hw : w < 2 * F.sg) (hf : F.fin w) : F.cls w = 1↔(F.vl w).m = 0:=by
 rw [Zbm hf]
 constructor
 ·intro h; rw [(Zhl hw h).2]
 ·intro h
  have h1:=fun q => ZuM hw q hf
  exact Decidable.byContradiction fun q => h1 q h
theorem Zsc (F : Fm) (md : Int) {c c' : Int} {n n' : Bool} {d d' : Dy} (h1 : c = 1∨c = 2∨c = 3) (h2 : c' = 1∨c' = 2∨c' = 3) :
  mulP F md c n d c' n' d' = if c = 1∨c' = 1 then (F.sgn (n != n'),0) else sumW F md (mulD d d'):=by
 unfold mulP
 rw [if_neg (by omega),if_neg (by omega),if_neg (by omega)]
theorem ZIk {a b : Dy} (ha : Nz a) (hb : Nz b) (h1 : a.m≠0) (h2 : b.m≠0) : mulD a b = ⟨a.n != b.n,a.m * b.m,a.e + b.e⟩:=by
 unfold mulD; exact Zob (ZuD (ha.2 h1) (hb.2 h2))
theorem ZlB {a b : Dy} {K L : Int} (ha : LoE a K) (hb : LoE b L) : iv (mulD a b) (K + L) = iv a K * iv b L∧LoE (mulD a b) (K + L):=by
 by_cases h1 : a.m = 0
 ·have : mulD a b = ⟨false,0,0⟩:=Zly (Or.inl h1)
  rw [this,Zbs rfl,Zbs h1,Int.zero_mul]; exact ⟨rfl,Or.inl rfl⟩
 ·by_cases h2 : b.m = 0
  ·have : mulD a b = ⟨false,0,0⟩:=Zly (Or.inr h2)
   rw [this,Zbs rfl,Zbs h2,Int.mul_zero]; exact ⟨rfl,Or.inl rfl⟩
  ·have la:=ha.resolve_left h1
   have lb:=hb.resolve_left h2
   refine ⟨?_,ZkJ (by omega)⟩
   unfold mulD
   rw [ZoF (by omega),show (a.e + b.e - (K + L)).toNat = (a.e - K).toNat + (b.e - L).toNat by omega,Nat.pow_add]
   unfold iv
   have e : a.m * b.m * (2 ^ (a.e - K).toNat * 2 ^ (b.e - L).toNat) = (a.m * 2 ^ (a.e - K).toNat) * (b.m * 2 ^ (b.e - L).toNat):=by
    simp only [Nat.mul_assoc,Nat.mul_left_comm,Nat.mul_comm]
   rw [e,Int.natCast_mul]
   generalize ((a.m * 2 ^ (a.e - K).toNat : Nat) : Int) = x
   generalize ((b.m * 2 ^ (b.e - L).toNat : Nat) : Int) = y
   cases a.n <;> cases b.n <;> simp [Int.neg_mul,Int.mul_neg]
theorem ZCH (F : Fm) {md : Int} {a b : Dy} (h0 : a.m≠0) (h1 : b.m≠0) (hf : (quoW F md a b).2 = 0∨(quoW F md a b).2 = 16) :
  ∃ (K N kk : Nat) (u : Int),F.fin (quoW F md a b).1∧(quoW F md a b).1 < 2 * F.sg∧F.val (quoW F md a b).1 = mkD (a.n != b.n) K u∧u + b.e = a.e - N + kk∧((quoW F md a b).2 = 16→u≤(a.e + blen a.m) - (b.e + blen b.m) + 1 - F.fr) ∧
   (a.m * 2 ^ N≤K * b.m * 2 ^ kk + b.m * 2 ^ kk)∧K * b.m * 2 ^ kk≤a.m * 2 ^ N + b.m * 2 ^ kk∧((quoW F md a b).2 = 0→a.m * 2 ^ N = K * b.m * 2 ^ kk):=by
 have hF:=Zba F
 have hi:=ZdJ F
 have hqb:=ZkF (k:=64) h0 h1
 unfold quoW at hf ⊢
 obtain ⟨N,hN⟩ : ∃ N,N = quoN 64 a.m b.m:=⟨_,rfl⟩
 rw [← hN] at hf hqb ⊢
 have hdm:=Nat.div_add_mod (a.m * 2 ^ N) b.m
 have hml:=Nat.mod_lt (a.m * 2 ^ N) (Nat.pos_of_ne_zero h1)
 have hbA : blen (a.m * 2 ^ N) = blen a.m + N:=Zan h0 N
 obtain ⟨A,hA⟩ : ∃ A,A = a.m * 2 ^ N:=⟨_,rfl⟩
 rw [← hA] at hdm hml hbA hqb hf ⊢
 obtain ⟨Q,hQ⟩ : ∃ Q,Q = A / b.m:=⟨_,rfl⟩
 rw [← hQ] at hdm hqb hf ⊢
 have hQb : blen Q + blen b.m≤blen A + 1:=by
  have q0 : Q≠0:=by rintro rfl; rw [Zai] at hqb; omega
  have e1:=Zbc q0
  have e2:=Zbc h1
  have e3:=Nat.mul_le_mul e2 e1
  rw [← Nat.pow_add] at e3
  have e4:=ZaS A
  have e5 : blen b.m - 1 + (blen Q - 1) < blen A:=by
   refine (Nat.pow_lt_pow_iff_right (a:=2) (by decide)).1 (Nat.lt_of_le_of_lt e3 (Nat.lt_of_le_of_lt ?_ e4))
   omega
  have:=Zcz h1
  omega
 obtain ⟨E,hE⟩ : ∃ E : Int,E = a.e - b.e - (N : Nat):=⟨_,rfl⟩
 rw [← hE] at hf ⊢
 unfold sW at hf ⊢
 obtain ⟨u,hu⟩ : ∃ u,u = F.eOf (E + blen Q):=⟨_,rfl⟩
 have hue : u = max (E + blen Q - F.fr - 1) F.low:=hu
 rw [← hu] at hf ⊢
 obtain ⟨kk,hkk⟩ : ∃ kk,kk = (u - E).toNat:=⟨_,rfl⟩
 rw [← hkk] at hf ⊢
 have k0 : 0 < kk:=by omega
 -- the count of units
 obtain ⟨lost,hlost⟩ : ∃ l,l = !decide (A % b.m = 0):=⟨_,rfl⟩
 rw [← hlost] at hf ⊢
 obtain ⟨up,hup⟩ : ∃ up : Bool,(rdN md (a.n != b.n) Q lost kk).1 = Q / 2 ^ kk + up.toNat∧((rdN md (a.n != b.n) Q lost kk).2 = true→up = false∧Q % 2 ^ kk = 0∧A % b.m = 0):=by
  refine ⟨_,rfl,fun h => ?_⟩
  simp only [rdN,Bool.and_eq_true,Bool.not_eq_true'] at h
  obtain ⟨q1,_,_⟩:=Zjd Q k0
  rw [h.1,h.2]
  refine ⟨ZED _ _ _,?_,?_⟩
  ·have h2:=h.2
   simp only [moreN,Bool.or_eq_false_iff,decide_eq_false_iff_not,ne_eq,Decidable.not_not] at h2
   rw [q1,h.1,h2.2]; rfl
  ·have h2:=h.2
   simp only [moreN,Bool.or_eq_false_iff] at h2
   have h3:=h2.1
   rw [hlost] at h3
   simpa using h3
 have hbd : (rdN md (a.n != b.n) Q lost kk).1≤2 ^ (F.fr + 1):=by
  rw [hup.1]
  have hb1 : blen (Q / 2 ^ kk)≤F.fr + 1:=by rw [Zah]; omega
  have:=Zaf.1 hb1
  cases up <;> simp <;> omega
 have hlo2 : u = F.low∨2 ^ F.fr≤(rdN md (a.n != b.n) Q lost kk).1:=by
  by_cases q : u = F.low
  ·exact Or.inl q
  ·right
   have : 2 ^ F.fr≤Q / 2 ^ kk:=ZaR.1 (by rw [Zah]; omega)
   rw [hup.1]; omega
 have hfine : blen (rdN md (a.n != b.n) Q lost (blen Q - F.fr - 1)).1≤F.fr + 2:=by
  have hb1 : blen (Q / 2 ^ (blen Q - F.fr - 1))≤F.fr + 1:=by rw [Zah]; omega
  have h2:=Zaf.1 hb1
  have hb : ∀ b : Bool,b.toNat≤1:=fun b => by cases b <;> decide
  rw [Zaf,show F.fr + 2 = (F.fr + 1) + 1 by omega,Nat.pow_succ]
  simp only [rdN]
  have:=hb (upB md (a.n != b.n) (decide (Q / 2 ^ (blen Q - F.fr - 1) % 2 = 1)) (halfN Q (blen Q - F.fr - 1)) (moreN Q lost (blen Q - F.fr - 1)))
  have h3:=Nat.two_pow_pos (F.fr + 1)
  omega
 generalize hK : (rdN md (a.n != b.n) Q lost kk).1 = K at *
 generalize (rdN md (a.n != b.n) Q lost (blen Q - F.fr - 1)).1 = fine at *
 generalize (rdN md (a.n != b.n) Q lost kk).2 = ex at *
 unfold wordOf at hf ⊢
 have hbig:=Zmx F (n:=K) (u:=u) hbd (by omega) hlo2
 by_cases ov : F.wide < blen K + u
 ·rw [if_pos ov] at hf; simp only at hf; omega
 ·rw [if_neg ov] at hf ⊢
  have hs : F.enc K u < F.i0:=by
   rcases Nat.lt_or_ge (F.enc K u) F.i0 with q | q
   ·exact q
   ·exact absurd (hbig.2 q) ov
  obtain ⟨v1,v2,v3⟩:=Zua (F:=F) (a.n != b.n) hs
  rw [ZoJ F hbd (by omega) hlo2] at v1
  have hval : F.val (F.enc K u + F.sgn (a.n != b.n)) = mkD (a.n != b.n) K u:=Zvc v3 (ZoH _ _ _) v2 (ZkJ (by omega)) (by rw [v1,ZoF (by omega)])
  -- S
  have hS1 : Q * b.m = Q / 2 ^ kk * b.m * 2 ^ kk + Q % 2 ^ kk * b.m:=by
   have e:=Nat.div_add_mod Q (2 ^ kk)
   conv => lhs; rw [← e]
   rw [Nat.add_mul]
   congr 1
   rw [Nat.mul_assoc,Nat.mul_comm]
  have hS2 : Q % 2 ^ kk * b.m + A % b.m < b.m * 2 ^ kk:=by
   have e:=Nat.mod_lt Q (Nat.two_pow_pos kk)
   have:=Nat.mul_le_mul_left b.m (show Q % 2 ^ kk + 1≤2 ^ kk from e)
   rw [Nat.mul_add,Nat.mul_one,Nat.mul_comm b.m (Q % 2 ^ kk)] at this
   omega
  have hdm' : Q * b.m + A % b.m = A:=by rw [Nat.mul_comm]; exact hdm
  have hKb : K * b.m * 2 ^ kk = Q / 2 ^ kk * b.m * 2 ^ kk + up.toNat * (b.m * 2 ^ kk):=by rw [hup.1,Nat.add_mul,Nat.add_mul,Nat.mul_assoc up.toNat]
  refine ⟨K,N,kk,u,Zdl _ hs,by unfold Fm.sgn; split <;> omega,hval,by omega,?_,?_,?_,?_⟩
  ·intro hf
   simp only at hf
   have : ¬ ((blen fine : Int) + (E + blen Q - F.fr - 1) < F.low + F.fr + 1):=by
    intro q; rw [if_pos q] at hf; split at hf <;> omega
   omega
  ·rw [← hA,hKb]
   generalize Q / 2 ^ kk * b.m * 2 ^ kk = X at *
   generalize b.m * 2 ^ kk = Y at *
   cases up <;> simp <;> omega
  ·rw [← hA,hKb]
   generalize Q / 2 ^ kk * b.m * 2 ^ kk = X at *
   generalize b.m * 2 ^ kk = Y at *
   cases up <;> simp <;> omega
  ·intro h
   have hx : ex = true:=by
    cases ex
    ·simp only [Bool.false_eq_true,if_false] at h; split at h <;> simp at h
    ·rfl
   obtain ⟨x1,x2,x3⟩:=hup.2 hx
   rw [← hA,hKb,x1,← hdm',x3,hS1,x2]; simp
theorem ZFg (F : Fm) (md : Int) (neg : Bool) {Q : Nat} (lost : Bool) (E : Int) (hq : F.fr + 2≤blen Q) :
  ∃ (K kk : Nat) (u : Int),0 < kk∧u = E + kk∧F.low≤u∧K = Q / 2 ^ kk + (upB md neg (decide (Q / 2 ^ kk % 2 = 1)) (halfN Q kk) (moreN Q lost kk)).toNat∧magN F (F.enc K u) = K * 2 ^ (u - F.low).toNat ∧
   ((F.i0≤F.enc K u∧(sW F md neg Q lost E).1 = ovr F md neg)∨(F.enc K u < F.i0∧(sW F md neg Q lost E).1 = F.enc K u + F.sgn neg)):=by
 have hF:=Zba F
 unfold sW
 obtain ⟨u,hu⟩ : ∃ u,u = F.eOf (E + blen Q):=⟨_,rfl⟩
 have hue : u = max (E + blen Q - F.fr - 1) F.low:=hu
 rw [← hu]
 obtain ⟨kk,hkk⟩ : ∃ kk,kk = (u - E).toNat:=⟨_,rfl⟩
 rw [← hkk]
 have k0 : 0 < kk:=by omega
 have hK : (rdN md neg Q lost kk).1 = Q / 2 ^ kk + (upB md neg (decide (Q / 2 ^ kk % 2 = 1)) (halfN Q kk) (moreN Q lost kk)).toNat:=rfl
 have hbt : ∀ b : Bool,b.toNat≤1:=fun b => by cases b <;> decide
 have hbd : (rdN md neg Q lost kk).1≤2 ^ (F.fr + 1):=by
  rw [hK]
  have hb1 : blen (Q / 2 ^ kk)≤F.fr + 1:=by rw [Zah]; omega
  have:=Zaf.1 hb1
  have:=hbt (upB md neg (decide (Q / 2 ^ kk % 2 = 1)) (halfN Q kk) (moreN Q lost kk))
  omega
 have hlo2 : u = F.low∨2 ^ F.fr≤(rdN md neg Q lost kk).1:=by
  by_cases q : u = F.low
  ·exact Or.inl q
  ·right
   have : 2 ^ F.fr≤Q / 2 ^ kk:=ZaR.1 (by rw [Zah]; omega)
   rw [hK]; omega
 have hbig:=Zmx F (n:=(rdN md neg Q lost kk).1) (u:=u) hbd (by omega) hlo2
 refine ⟨(rdN md neg Q lost kk).1,kk,u,k0,by omega,by omega,hK,ZoJ F hbd (by omega) hlo2,?_⟩
 unfold wordOf
 by_cases ov : F.wide < blen (rdN md neg Q lost kk).1 + u
 ·left; rw [if_pos ov]; exact ⟨hbig.1 ov,rfl⟩
 ·right; rw [if_neg ov]
  refine ⟨?_,rfl⟩
  rcases Nat.lt_or_ge (F.enc (rdN md neg Q lost kk).1 u) F.i0 with q | q
  ·exact q
  ·exact absurd (hbig.2 q) ov
theorem units {K kk : Nat} {u E low L : Int} (h1 : u = E + kk) (h2 : L≤E) (h3 : low≤u) (h4 : L≤low) : K * 2 ^ (u - low).toNat * 2 ^ (low - L).toNat = K * 2 ^ kk * 2 ^ (E - L).toNat:=by
 rw [Nat.mul_assoc,← Nat.pow_add,Nat.mul_assoc,← Nat.pow_add]; congr 2; omega
theorem ZHK (F : Fm) {Q : Nat} (lost : Bool) (E : Int) (hq : F.fr + 2≤blen Q) {L : Int} (l1 : L≤F.low) (l2 : L≤E) :
  (sW F 4 false Q lost E).1 < 2 * F.sg∧(F.cls (sW F 4 false Q lost E).1 = 4∨(F.fin (sW F 4 false Q lost E).1∧(((Q + lost.toNat) * 2 ^ (E - L).toNat : Nat) : Int)≤iv (F.val (sW F 4 false Q lost E).1) L∧LoE (F.val (sW F 4 false Q lost E).1) L)):=by
 have hi:=ZdJ F
 obtain ⟨K,kk,u,k0,hu,hlo,hK,hm,h⟩:=ZFg F 4 false lost E hq
 have hup : upB 4 false (decide (Q / 2 ^ kk % 2 = 1)) (halfN Q kk) (moreN Q lost kk) = (halfN Q kk || moreN Q lost kk):=by simp [upB]
 rw [hup] at hK
 obtain ⟨q1,q2,q3⟩:=Zjd Q k0
 have hd:=Nat.div_add_mod Q (2 ^ kk)
 have hml:=Nat.mod_lt Q (Nat.two_pow_pos kk)
 have hKQ : Q + lost.toNat≤K * 2 ^ kk:=by
  rw [hK,Nat.add_mul,Nat.mul_comm]
  have hlb : lost.toNat≤1:=by cases lost <;> decide
  by_cases hb : (halfN Q kk || moreN Q lost kk) = true
  ·rw [hb]; simp only [Bool.toNat_true,Nat.one_mul]; omega
  ·simp only [Bool.not_eq_true] at hb
   rw [hb]
   simp only [Bool.or_eq_false_iff,moreN,decide_eq_false_iff_not,ne_eq,Decidable.not_not] at hb
   rw [hb.1,hb.2.2] at q1
   rw [hb.2.1]
   simp only [Bool.toNat_false,Nat.zero_mul,Nat.add_zero]
   simp only [Bool.false_eq_true,if_false] at q1
   omega
 rcases h with ⟨h1,h2⟩ | ⟨h1,h2⟩
 ·have e : ovr F 4 false = F.inf false:=by unfold ovr; rw [if_neg (by simp)]
  rw [h2,e]
  refine ⟨?_,Or.inl (ZsH F false)⟩
  cases F <;> decide
 ·rw [h2]
  obtain ⟨v1,v2⟩:=ZvJ (F:=F) false h1 l1
  refine ⟨by unfold Fm.sgn; simp only [Bool.false_eq_true,if_false]; omega,Or.inr ⟨Zdl false h1,?_,v2⟩⟩
  rw [v1,hm,units hu l2 hlo l1]
  simp only [Bool.false_eq_true,if_false,Int.one_mul]
  exact Int.ofNat_le.2 (Nat.mul_le_mul_right _ hKQ)
theorem ZIA (F : Fm) {d : Dy} (hn : d.n = false) : (rtW F 4 d).1 < 2 * F.sg∧(F.cls (rtW F 4 d).1 = 4∨(F.fin (rtW F 4 d).1∧∀ L,L≤F.low→2 * L≤d.e - 200→0≤iv (F.vl (rtW F 4 d).1) L∧LoE (F.vl (rtW F 4 d).1) L∧iv d (2 * L)≤iv (F.vl (rtW F 4 d).1) L * iv (F.vl (rtW F 4 d).1) L)):=by
 unfold rtW
 by_cases h0 : d.m = 0
 ·rw [if_pos h0]
  obtain ⟨s1,s2,s3⟩:=ZAF F false
  refine ⟨s1,Or.inr ⟨s2,fun L l1 l2 => ?_⟩⟩
  have e : F.vl ((0,0) : Nat × Nat).1 = ⟨false,0,0⟩:=s3
  rw [e,Zbs rfl,Zbs h0]
  exact ⟨Int.le_refl _,Or.inl rfl,by decide⟩
 ·rw [if_neg h0]
  unfold rootW
  obtain ⟨r1,r2⟩:=ZoI (d.m * 2 ^ rootP d.e)
  have hP : rootP d.e = 130 + (d.e % 2).toNat:=rfl
  have hbp:=Zcz h0
  have hbm:=Zan h0 (rootP d.e)
  have hbt : 64 < blen (isq (d.m * 2 ^ rootP d.e)):=Zjq (k:=64) (M:=d.m * 2 ^ rootP d.e) (by
   have:=Zbc (n:=d.m * 2 ^ rootP d.e) (by intro hc; rw [hc,Zai] at hbm; omega)
   rw [← Nat.pow_add]
   exact Nat.le_trans (Nat.pow_le_pow_right (by decide) (by omega)) this) r2
  have hF:=ZtF F
  have hE : (d.e - (rootP d.e : Nat)) / 2 * 2 = d.e - (rootP d.e : Nat):=by omega
  obtain ⟨lost,hl⟩ : ∃ l,l = (!decide (isq (d.m * 2 ^ rootP d.e) * isq (d.m * 2 ^ rootP d.e) = d.m * 2 ^ rootP d.e)):=⟨_,rfl⟩
  rw [← hl]
  have hr : d.m * 2 ^ rootP d.e≤(isq (d.m * 2 ^ rootP d.e) + lost.toNat) * (isq (d.m * 2 ^ rootP d.e) + lost.toNat):=by
   by_cases q : isq (d.m * 2 ^ rootP d.e) * isq (d.m * 2 ^ rootP d.e) = d.m * 2 ^ rootP d.e
   ·rw [hl,decide_eq_true q]; simp only [Bool.not_true,Bool.toNat_false,Nat.add_zero]; omega
   ·rw [hl,decide_eq_false q]; simp only [Bool.not_false,Bool.toNat_true]; omega
  clear hl
  have g0:=ZHK F (Q:=isq (d.m * 2 ^ rootP d.e)) lost ((d.e - (rootP d.e : Nat)) / 2) (by omega) (L:=min F.low ((d.e - (rootP d.e : Nat)) / 2)) (by omega) (by omega)
  refine ⟨g0.1,?_⟩
  rcases g0.2 with g1 | ⟨g1,_,_⟩
  ·exact Or.inl g1
  refine Or.inr ⟨g1,fun L l1 l2 => ?_⟩
  obtain ⟨_,g2⟩:=ZHK F (Q:=isq (d.m * 2 ^ rootP d.e)) lost ((d.e - (rootP d.e : Nat)) / 2) (by omega) (L:=L) (by omega) (by omega)
  rcases g2 with g2 | ⟨_,g3,g4⟩
  ·have:=Zag.1 g1; omega
  rw [Zbm g1]
  have hd : iv d (2 * L) = ((d.m * 2 ^ rootP d.e * (2 ^ ((d.e - (rootP d.e : Nat)) / 2 - L).toNat * 2 ^ ((d.e - (rootP d.e : Nat)) / 2 - L).toNat) : Nat) : Int):=by
   unfold iv; rw [hn]
   simp only [Bool.false_eq_true,if_false,Int.one_mul]
   rw [Nat.mul_assoc,← Nat.pow_add,← Nat.pow_add]
   congr 3; omega
  rw [hd]
  generalize isq (d.m * 2 ^ rootP d.e) + lost.toNat = r at *
  generalize d.m * 2 ^ rootP d.e = X at *
  generalize 2 ^ ((d.e - (rootP d.e : Nat)) / 2 - L).toNat = U at *
  refine ⟨Int.le_trans (Int.natCast_nonneg _) g3,g4,Int.le_trans ?_ (Int.mul_le_mul g3 g3 (Int.natCast_nonneg _) (Int.le_trans (Int.natCast_nonneg _) g3))⟩
  rw [← Int.natCast_mul]
  refine Int.ofNat_le.2 ?_
  rw [show r * U * (r * U) = r * r * (U * U) by simp only [Nat.mul_assoc,Nat.mul_left_comm,Nat.mul_comm]]
  exact Nat.mul_le_mul_right _ hr
theorem ZrR (x : Int) : 0≤x * x:=by
 rcases Int.le_total 0 x with h | h
 ·exact Int.mul_nonneg h h
 ·have:=Int.mul_nonneg (Int.neg_nonneg.2 h) (Int.neg_nonneg.2 h)
  rwa [Int.neg_mul_neg] at this
theorem ZIY {x y : Int} (hy : 0≤y) (h : x * x≤y * y) : x≤y:=by
 rcases Int.lt_or_le y x with q | q
 ·have:=Int.mul_lt_mul_of_pos_left q (show 0 < x by omega)
  have h2:=Int.mul_le_mul_of_nonneg_right (Int.le_of_lt q) hy
  omega
 ·exact q
theorem ZEX {F : Fm} {md : Int} {neg o h m : Bool} (hm : 1≤md∧md≤5) (hu : upB md neg o h m = true) : ovs F md neg = F.i0:=by
 unfold ovs
 rw [if_neg]
 rintro (r | ⟨r,n⟩ | ⟨r,n⟩) <;> subst r <;> simp [upB] at hu
 ·rw [n] at hu; simp at hu
 ·rw [n] at hu; simp at hu
theorem ZyL (F : Fm) (neg : Bool) {Q : Nat} (more : Bool) (E : Int) (hQ : F.fr + 2≤blen Q) : ∃ (s0 : Nat) (o h m : Bool),∀ md,1≤md∧md≤5 →
  (sW F md neg Q more E).1 = (if s0 < F.i0 then s0 + (upB md neg o h m).toNat else ovs F md neg) + F.sgn neg:=by
 obtain ⟨u,hu⟩ : ∃ u,u = F.eOf (E + blen Q):=⟨_,rfl⟩
 have hue : u = max (E + blen Q - F.fr - 1) F.low:=hu
 obtain ⟨k,hk⟩ : ∃ k,k = (u - E).toNat:=⟨_,rfl⟩
 have k0 : 0 < k:=by omega
 have hb1 : blen (Q / 2 ^ k)≤F.fr + 1:=by rw [Zah]; omega
 have hb2:=Zaf.1 hb1
 refine ⟨F.enc (Q / 2 ^ k) u,decide (Q / 2 ^ k % 2 = 1),halfN Q k,moreN Q more k,fun md hm => ?_⟩
 unfold sW
 rw [← hu,← hk]
 have hn : (rdN md neg Q more k).1 = Q / 2 ^ k + (upB md neg (decide (Q / 2 ^ k % 2 = 1)) (halfN Q k) (moreN Q more k)).toNat:=rfl
 generalize (rdN md neg Q more (blen Q - F.fr - 1)).1 = fine
 generalize (rdN md neg Q more k).2 = ex
 rw [hn]
 obtain ⟨n0,hn0⟩ : ∃ n0,n0 = Q / 2 ^ k:=⟨_,rfl⟩
 rw [← hn0] at hb1 hb2 ⊢
 have hlo : u = F.low∨2 ^ F.fr≤n0:=by
  by_cases q : u = F.low
  ·exact Or.inl q
  ·right; rw [hn0]; exact ZaR.1 (by rw [Zah]; omega)
 generalize hU : upB md neg (decide (n0 % 2 = 1)) (halfN Q k) (moreN Q more k) = U
 have hUn : U.toNat≤1:=by cases U <;> decide
 have hb:=Zmx F (n:=n0 + U.toNat) (u:=u) (by omega) (by omega) (by omega)
 have he : F.enc (n0 + U.toNat) u = F.enc n0 u + U.toNat:=by cases U <;> rfl
 rw [he] at hb
 unfold wordOf
 by_cases hs : F.enc n0 u < F.i0
 ·rw [if_pos hs]
  by_cases hw : F.wide < blen (n0 + U.toNat) + u
  ·rw [if_pos hw,ZwJ]
   have h1:=hb.1 hw
   have hUt : U = true:=by cases U with | true => rfl | false => exfalso; simp at h1; omega
   subst hUt
   rw [ZEX hm hU]
   simp at h1 ⊢
   omega
  ·rw [if_neg hw,he]
 ·rw [if_neg hs,if_pos (hb.2 (by omega)),ZwJ]
def plz (F : Fm) (neg : Bool) (s : Nat) : Int:=if neg then -(s : Int) else s
theorem Zjw (F : Fm) {md : Int} (hm : 1≤md∧md≤5) (neg o h m : Bool) (s0 : Nat) :
  let z:=fun md => (if s0 < F.i0 then s0 + (upB md neg o h m).toNat else ovs F md neg)
  plz F neg (z 5)≤plz F neg (z md)∧plz F neg (z md)≤plz F neg (z 4)∧plz F neg (z 4)≤plz F neg (z 5) + 1∧z md≤F.i0:=by
 have hi:=ZdJ F
 have hmd : md = 1∨md = 2∨md = 3∨md = 4∨md = 5:=by omega
 simp only
 by_cases hs : s0 < F.i0
 ·simp only [if_pos hs]
  rcases hmd with r | r | r | r | r <;> subst r <;> cases neg <;> cases o <;> cases h <;> cases m <;> simp [upB,plz] <;> omega
 ·simp only [if_neg hs]
  rcases hmd with r | r | r | r | r <;> subst r <;> cases neg <;> simp [ovs,plz] <;> omega
theorem ZwQ (F : Fm) {a b : Dy} (h0 : a.m≠0) (h1 : b.m≠0) : ∃ (s0 : Nat) (o h m : Bool),∀ md,1≤md∧md≤5 →
  (quoW F md a b).1 = (if s0 < F.i0 then s0 + (upB md (a.n != b.n) o h m).toNat else ovs F md (a.n != b.n)) + F.sgn (a.n != b.n):=by
 have hF:=Zba F
 have hqb:=ZkF (k:=64) h0 h1
 exact ZyL F (a.n != b.n) _ _ (by omega)
theorem ZFA (F : Fm) (neg : Bool) {s : Nat} (h : s≤F.i0) : (if F.ng (s + F.sgn neg) then -(((s + F.sgn neg) % F.sg : Nat) : Int) else (((s + F.sgn neg) % F.sg : Nat) : Int)) = plz F neg s∧s + F.sgn neg < 2 * F.sg∧F.cls (s + F.sgn neg)≠5:=by
 have hi:=ZdJ F
 obtain ⟨q1,q2⟩:=ZcR (F:=F) (s:=s) neg (by omega)
 refine ⟨?_,?_,(Zrm neg h).2.2⟩
 ·rw [q1,q2]; unfold plz; cases neg <;> rfl
 ·unfold Fm.sgn; split <;> omega
def NB (x y n : Int) : Prop:=0≤n∧x * x + y * y≤n * n
theorem NB.mono {x y a b : Int} (h : NB x y a) (hab : a≤b) : NB x y b :=
 ⟨Int.le_trans h.1 hab,Int.le_trans h.2 (Int.mul_le_mul hab hab h.1 (Int.le_trans h.1 hab))⟩
theorem NB.add {x y z w a b : Int} (h : NB x y a) (k : NB z w b) : NB (x + z) (y + w) (a + b):=by
 obtain ⟨a0,h1⟩:=h
 obtain ⟨b0,k1⟩:=k
 refine ⟨by omega,?_⟩
 have e : (x * z + y * w) * (x * z + y * w)≤(a * b) * (a * b):=by
  have c1 : (x * z + y * w) * (x * z + y * w) + (x * w - y * z) * (x * w - y * z) = (x * x + y * y) * (z * z + w * w):=by grind
  have c2:=ZrR (x * w - y * z)
  have c3:=Int.mul_le_mul h1 k1 (by have:=ZrR z; have:=ZrR w; omega) (by have:=ZrR a; omega)
  have c4 : a * a * (b * b) = (a * b) * (a * b):=by grind
  omega
 have f:=ZIY (Int.mul_nonneg a0 b0) e
 have g : (x + z) * (x + z) + (y + w) * (y + w) = (x * x + y * y) + (z * z + w * w) + 2 * (x * z + y * w):=by grind
 have g2 : (a + b) * (a + b) = a * a + b * b + 2 * (a * b):=by grind
 omega
theorem NB.mul {x y z w a b : Int} (h : NB x y a) (k : NB z w b) : NB (x * z - y * w) (x * w + y * z) (a * b):=by
 obtain ⟨a0,h1⟩:=h
 obtain ⟨b0,k1⟩:=k
 refine ⟨Int.mul_nonneg a0 b0,?_⟩
 have c1 : (x * z - y * w) * (x * z - y * w) + (x * w + y * z) * (x * w + y * z) = (x * x + y * y) * (z * z + w * w):=by grind
 have c3:=Int.mul_le_mul h1 k1 (by have:=ZrR z; have:=ZrR w; omega) (by have:=ZrR a; omega)
 have c4 : a * a * (b * b) = (a * b) * (a * b):=by grind
 omega
theorem NB.parts {x y x' y' a : Int} (h : NB x' y' a) (hx : x.natAbs≤x'.natAbs) (hy : y.natAbs≤y'.natAbs) : NB x y a:=by
 refine ⟨h.1,Int.le_trans ?_ h.2⟩
 have s : ∀ u v : Int,u.natAbs≤v.natAbs→u * u≤v * v:=fun u v q => by
  have:=Nat.mul_le_mul q q
  rw [← Int.natAbs_mul_self,← Int.natAbs_mul_self (a:=v)]
  exact Int.ofNat_le.2 this
 have:=s x x' hx
 have:=s y y' hy
 omega
theorem ZuF (F : Fm) {m : Int} (hm : 1≤m∧m≤5) (d : Dy) : (sumW F m d).1 < 2 * F.sg:=by
 have hi:=ZdJ F
 unfold sumW; split
 ·unfold Fm.sgn; simp only; split <;> omega
 ·obtain ⟨s,n,e,h1,_⟩:=Zrl F hm.1 hm.2 d
  rw [e]; exact ZFW n h1
theorem ZBN (F : Fm) (md : Int) {a b : Nat} (fa : F.fin a) (fb : F.fin b) : absZ F md a b = rtW F md (sqD F a b):=by
 have ca:=Zag.1 fa
 have cb:=Zag.1 fb
 unfold absZ toldW zcl
 rw [if_neg (show ¬ (F.cls a = 4∨F.cls b = 4) by omega),if_neg (show ¬ (F.cls a = 5∨F.cls b = 5) by omega)]
 split <;> simp
theorem ZHB (F : Fm) {a b : Nat} {L : Int} (la : LoE (F.vl a) L) (lb : LoE (F.vl b) L) : iv (sqD F a b) (2 * L) = iv (F.vl a) L * iv (F.vl a) L + iv (F.vl b) L * iv (F.vl b) L:=by
 obtain ⟨p1,p2⟩:=ZlB la la
 obtain ⟨q1,q2⟩:=ZlB lb lb
 unfold sqD
 rw [show 2 * L = L + L by omega,(ZiS p2 q2).1,p1,q1]
theorem ZbZ (J : Al G T g) (F : Fm) {a b : Nat} (ha : a < 2 * F.sg) (hb : b < 2 * F.sg) : run G T 250 [.int .u8 F.u,zA a b] = some (.bool (decide (F.fin a∧F.fin b))):=by
 rw [Zab G T J.J.ZbZ]
 have f1:=ZdP J F (Zce ha)
 have f2:=ZdP J F (Zce hb)
 simp only [zA]
 by_cases p : F.fin a
 ·rw [decide_eq_true p] at f1
  by_cases q : F.fin b
  ·rw [decide_eq_true q] at f2
   rw [decide_eq_true (show F.fin a∧F.fin b from ⟨p,q⟩)]
   repeat' (first|simp (maxSteps:=9^7) only [seval,exC,Zcr,f1,f2]|simp (maxSteps:=9^7) (disch:=first|with_reducible assumption|omega) only [dxB]|(simp only [kdB];split)|(simp only [kvB];split))
  ·rw [decide_eq_false q] at f2
   rw [decide_eq_false (show ¬ (F.fin a∧F.fin b) from fun h => q h.2)]
   repeat' (first|simp (maxSteps:=9^7) only [seval,exC,Zcr,f1,f2]|simp (maxSteps:=9^7) (disch:=first|with_reducible assumption|omega) only [dxB]|(simp only [kdB];split)|(simp only [kvB];split))
 ·rw [decide_eq_false p] at f1
  rw [decide_eq_false (show ¬ (F.fin a∧F.fin b) from fun h => p h.1)]
  repeat' (first|simp (maxSteps:=9^7) only [seval,exC,Zcr,f1]|simp (maxSteps:=9^7) (disch:=first|with_reducible assumption|omega) only [dxB]|(simp only [kdB];split)|(simp only [kvB];split))
def zrA (p q : Nat × Nat) : AV:=.agg [.int .u64 (p.1 : Int),.int .u64 (q.1 : Int),.int .u8 (p.2 : Int),.int .u8 (q.2 : Int)]
theorem Zqh (J : Al G T g) (F : Fm) {md : Int} (hm : 1≤md∧md≤5) {a b c d : Nat} (ha : a < 2 * F.sg) (hb : b < 2 * F.sg) (hc : c < 2 * F.sg) (hd : d < 2 * F.sg) :
  run G T 251 [.int .u8 F.u,.int .u8 md,zA a b,zA c d] = some (zrA (addW F md a c) (addW F md b d)):=by
 rw [Zab G T J.J.Zqh]
 have r1:=Zdx J F hm ha hc
 have r2:=Zdx J F hm hb hd
 generalize addW F md a c = S1 at *
 generalize addW F md b d = S2 at *
 simp only [zA,zrA]
 repeat' (first|simp (maxSteps:=9^7) only [seval,exC,ZjN,r1,r2]|simp (maxSteps:=9^7) (disch:=first|with_reducible assumption|omega) only [dxB]|(simp only [kdB];split)|(simp only [kvB];split))
def numA (z : Bool) (x : Dy × Bool) : AV:=.agg [.bool x.1.n,D z (dl x.1.m),.int .i64 x.1.e,.bool x.2]
def tm (F : Fm) (a b : Nat) (minus : Bool) : Dy × Bool:=(if minus then negD (mulD (F.vl a) (F.vl b)) else mulD (F.vl a) (F.vl b),(F.ng a != F.ng b) != minus)
def zsg (md : Int) (x y : Dy × Bool) : Bool:=if x.1.m = 0∧y.1.m = 0∧x.2 = y.2 then x.2 else decide (md = 5)
def ptQ (F : Fm) (md : Int) (d : Dy) (n : Bool) (by' : Dy) : Nat × Nat:=if d.m = 0 then (F.sgn n,0) else quoW F md d by'
theorem Zom (F : Fm) (a b : Nat) : Bd (mulD (F.vl a) (F.vl b)) 2400:=by
 have hF:=Zba F
 by_cases h1 : (F.vl a).m = 0
 ·rw [Zly (Or.inl h1)]; exact ⟨by simp only [Zai]; omega,by simp,by simp⟩
 ·by_cases h2 : (F.vl b).m = 0
  ·rw [Zly (Or.inr h2)]; exact ⟨by simp only [Zai]; omega,by simp,by simp⟩
  ·have fa : F.fin a:=by
    by_cases h : F.fin a
    ·exact h
    ·exfalso; apply h1; unfold Fm.vl; rw [if_neg h]
   have fb : F.fin b:=by
    by_cases h : F.fin b
    ·exact h
    ·exfalso; apply h2; unfold Fm.vl; rw [if_neg h]
   have e1:=ZlK F fa (by rw [← Zbm fa]; exact h1)
   have e2:=ZlK F fb (by rw [← Zbm fb]; exact h2)
   rw [← Zbm fa] at e1
   rw [← Zbm fb] at e2
   obtain ⟨_,a1,a2,a3⟩:=e1
   obtain ⟨_,b1,b2,b3⟩:=e2
   have hb:=ZAI a1 b1
   rw [ZIk (ZbJ F a) (ZbJ F b) h1 h2]
   exact ⟨by simp only; omega,by simp only; omega,by simp only; omega⟩
theorem ZoE (F : Fm) (a b : Nat) (s : Bool) : Bd (tm F a b s).1 2400∧Nz (tm F a b s).1:=by
 unfold tm; cases s
 ·exact ⟨Zom F a b,Zdo _ _⟩
 ·exact ⟨(Zom F a b).neg,Zwi (Zdo _ _)⟩
theorem Zkw (J : Al G T g) (F : Fm) {w : Nat} (hw : w < 2 * F.sg) :
  ∃ z,run G T 296 [.int .u8 F.u,.int .u64 (w : Int)] = some (numA z (F.vl w,F.ng w)):=by
 apply exP
 rw [Zab G T J.J.Zkw]
 obtain ⟨z,k,h1⟩:=Zcs J F hw
 have h2:=Zfm J F hw
 generalize F.vl w = v at *
 generalize F.ng w = n at *
 simp only [fldA,DyA,A3,numA] at *
 repeat' (first|simp (maxSteps:=9^7) only [seval,exC,ZgP,h1,h2]|simp (maxSteps:=9^7) (disch:=first|with_reducible assumption|omega) only [dxB]|(simp only [kdB];split)|(simp only [kvB];split))
 all_goals exact ⟨_,rfl,z,rfl⟩
theorem ZbU (J : Al G T g) {z y n k : Bool} {a b : Dy} (na : Nz a) (nb : Nz b) (ha : Bd a 16384) (hb : Bd b 16384) :
  ∃ z',run G T 278 [numA z (a,n),numA y (b,k)] = some (numA z' (mulD a b,n != k)):=by
 apply exP
 rw [Zab G T J.J.ZbU]
 obtain ⟨z',h1⟩:=ZlE J (z:=z) (y:=y) ha hb (ZaL na (ha.mono (by decide))) (ZaL nb (hb.mono (by decide)))
 generalize mulD a b = d at *
 have hne : (n != k) = !decide (n = k):=by cases n <;> cases k <;> rfl
 rw [hne]
 simp only [DyA,A3,numA] at *
 repeat' (first|simp (maxSteps:=9^7) only [seval,exC,Zdh,h1]|simp (maxSteps:=9^7) (disch:=first|with_reducible assumption|omega) only [dxB]|(simp only [kdB];split)|(simp only [kvB];split))
 all_goals exact ⟨_,rfl,z',rfl⟩
theorem ZhQ (J : Al G T g) {z n : Bool} {a : Dy} (na : Nz a) (ha : Bd a 131072) :
  ∃ z',run G T 279 [numA z (a,n)] = some (numA z' (negD a,!n)):=by
 apply exP
 rw [Zab G T J.J.ZhQ]
 obtain ⟨z',h1⟩:=ZrK J (z:=z) (d:=a) (ZaL na ha)
 generalize negD a = d at *
 simp only [DyA,A3,numA] at *
 repeat' (first|simp (maxSteps:=9^7) only [seval,exC,Zdk,h1]|simp (maxSteps:=9^7) (disch:=first|with_reducible assumption|omega) only [dxB]|(simp only [kdB];split)|(simp only [kvB];split))
 all_goals exact ⟨_,rfl,z',rfl⟩
theorem ZfN (J : Al G T g) {z y n k : Bool} {a b : Dy} {md : Int} (na : Nz a) (nb : Nz b) (ha : Bd a 16384) (hb : Bd b 16384) :
  ∃ z' s,run G T 295 [numA z (a,n),numA y (b,k),.int .u8 md] = some (numA z' (addD a b,s))∧((addD a b).m = 0→s = zsg md (a,n) (b,k)):=by
 rw [Zab G T J.J.ZfN]
 obtain ⟨z',h1⟩:=Zni J (z:=z) (y:=y) ha hb (ZaL na (ha.mono (by decide))) (ZaL nb (hb.mono (by decide)))
 have md':=ZaL (Zgz na nb) ((Zml ha hb).mono (by decide))
 have ma':=ZaL na (ha.mono (by decide))
 have s1:=ZcL J (n:=(addD a b).n) (z:=z') (Zaq (addD a b).m) (e:=(addD a b).e)
 rw [ZgI md'] at s1
 have s2:=ZcL J (n:=a.n) (z:=z) (Zaq a.m) (e:=a.e)
 rw [ZgI ma'] at s2
 have hz : (addD a b).m = 0→a.m = 0→b.m = 0:=by intro h ha0; unfold addD at h; rw [if_pos ha0] at h; exact h
 unfold zsg
 generalize addD a b = d at *
 clear md' ma' na nb ha hb
 obtain ⟨an,am,ae⟩:=a
 obtain ⟨dn,dm,de⟩:=d
 simp only [DyA,A3,numA] at *
 by_cases d0 : dm = 0
 ·rw [if_pos d0] at s1
  by_cases a0 : am = 0
  ·rw [if_pos a0] at s2
   have b0:=hz d0 a0
   by_cases e : n = k
   ·refine ⟨z',n,?_,fun _ => by rw [if_pos ⟨a0,b0,e⟩]⟩
    subst e
    repeat' (first|simp (maxSteps:=9^7) only [seval,exC,Zbb,h1,s1,s2]|simp (maxSteps:=9^7) (disch:=first|with_reducible assumption|omega) only [dxB]|(simp only [kdB];split)|(simp only [kvB];split))
   ·refine ⟨z',decide (md = 5),?_,fun _ => by rw [if_neg (fun h => e h.2.2)]⟩
    repeat' (first|simp (maxSteps:=9^7) only [seval,exC,Zbb,h1,s1,s2,e]|simp (maxSteps:=9^7) (disch:=first|with_reducible assumption|omega) only [dxB]|(simp only [kdB];split)|(simp only [kvB];split))
  ·rw [if_neg a0] at s2
   refine ⟨z',decide (md = 5),?_,fun _ => by rw [if_neg (fun h => a0 h.1)]⟩
   cases an <;> (simp only [Bool.false_eq_true,if_false,if_true] at s2; repeat' (first|simp (maxSteps:=9^7) only [seval,exC,Zbb,h1,s1,s2]|simp (maxSteps:=9^7) (disch:=first|with_reducible assumption|omega) only [dxB]|(simp only [kdB];split)|(simp only [kvB];split)))
 ·rw [if_neg d0] at s1
  refine ⟨z',dn,?_,fun h => absurd h d0⟩
  cases dn <;> (simp only [Bool.false_eq_true,if_false,if_true] at s1; repeat' (first|simp (maxSteps:=9^7) only [seval,exC,Zbb,h1,s1]|simp (maxSteps:=9^7) (disch:=first|with_reducible assumption|omega) only [dxB]|(simp only [kdB];split)|(simp only [kvB];split)))
def gaussA (z y : Bool) (p q : Dy × Bool) : AV:=.agg [.bool p.1.n,D z (dl p.1.m),.int .i64 p.1.e,.bool p.2,.bool q.1.n,D y (dl q.1.m),.int .i64 q.1.e,.bool q.2]
def workA (F : Fm) (md : Int) : AV:=.agg [.int .u8 F.u,.int .u8 md]
def oneD : Dy:=⟨false,1,0⟩
theorem ZgD (J : Al G T g) (F : Fm) {a b : Nat} (ha : a < 2 * F.sg) (hb : b < 2 * F.sg) :
  ∃ z y,run G T 271 [.int .u8 F.u,zA a b] = some (gaussA z y (F.vl a,F.ng a) (F.vl b,F.ng b)):=by
 rw [Zab G T J.J.ZgD]
 obtain ⟨z,h1⟩:=Zkw J F ha
 obtain ⟨y,h2⟩:=Zkw J F hb
 refine ⟨z,y,?_⟩
 generalize F.vl a = v at *
 generalize F.ng a = n at *
 generalize F.vl b = w at *
 generalize F.ng b = k at *
 simp only [zA,gaussA,numA] at *
 repeat' (first|simp (maxSteps:=9^7) only [seval,exC,Zep,h1,h2]|simp (maxSteps:=9^7) (disch:=first|with_reducible assumption|omega) only [dxB]|(simp only [kdB];split)|(simp only [kvB];split))
theorem Zgs (J : Al G T g) (F : Fm) {md : Int} {z1 z2 y1 y2 n1 n2 k1 k2 : Bool} {a b c d : Dy} (na : Nz a) (nb : Nz b) (nc : Nz c) (nd : Nz d) (ha : Bd a 4096) (hb : Bd b 4096) (hc : Bd c 4096) (hd : Bd d 4096) :
  ∃ z y s t,run G T 270 [workA F md,gaussA z1 z2 (a,n1) (b,n2),gaussA y1 y2 (c,k1) (d,k2)] = some (gaussA z y (addD (mulD a c) (negD (mulD b d)),s) (addD (mulD a d) (mulD b c),t)) ∧
   ((addD (mulD a c) (negD (mulD b d))).m = 0→s = zsg md (mulD a c,n1 != k1) (negD (mulD b d),!(n2 != k2)))∧((addD (mulD a d) (mulD b c)).m = 0→t = zsg md (mulD a d,n1 != k2) (mulD b c,n2 != k1)):=by
 rw [Zab G T J.J.Zgs]
 obtain ⟨u1,h1⟩:=ZbU J (z:=z1) (y:=y1) (n:=n1) (k:=k1) na nc (ha.mono (by decide)) (hc.mono (by decide))
 obtain ⟨u2,h2⟩:=ZbU J (z:=z2) (y:=y2) (n:=n2) (k:=k2) nb nd (hb.mono (by decide)) (hd.mono (by decide))
 obtain ⟨u3,h3⟩:=ZhQ J (z:=u2) (n:=n2 != k2) (Zdo b d) ((ZiW hb hd).mono (by decide))
 obtain ⟨u4,s,h4,e4⟩:=ZfN J (z:=u1) (y:=u3) (n:=n1 != k1) (k:=!(n2 != k2)) (md:=md) (Zdo a c) (Zwi (Zdo b d)) (ZiW ha hc) (ZiW hb hd).neg
 obtain ⟨u5,h5⟩:=ZbU J (z:=z1) (y:=y2) (n:=n1) (k:=k2) na nd (ha.mono (by decide)) (hd.mono (by decide))
 obtain ⟨u6,h6⟩:=ZbU J (z:=z2) (y:=y1) (n:=n2) (k:=k1) nb nc (hb.mono (by decide)) (hc.mono (by decide))
 obtain ⟨u7,t,h7,e7⟩:=ZfN J (z:=u5) (y:=u6) (n:=n1 != k2) (k:=n2 != k1) (md:=md) (Zdo a d) (Zdo b c) (ZiW ha hd) (ZiW hb hc)
 refine ⟨u4,u7,s,t,?_,e4,e7⟩
 clear e4 e7 ha hb hc hd na nb nc nd
 generalize addD (mulD a c) (negD (mulD b d)) = X at *
 generalize addD (mulD a d) (mulD b c) = Y at *
 generalize negD (mulD b d) = e at *
 generalize mulD a c = m1 at *
 generalize mulD b d = m2 at *
 generalize mulD a d = m3 at *
 generalize mulD b c = m4 at *
 generalize (!(n2 != k2)) = q0 at *
 generalize (n1 != k1) = q1 at *
 generalize (n2 != k2) = q2 at *
 generalize (n1 != k2) = q3 at *
 generalize (n2 != k1) = q4 at *
 simp only [gaussA,workA,numA] at *
 repeat' (first|simp (maxSteps:=9^7) only [seval,exC,Zcy,h1,h2,h3,h4,h5,h6,h7]|simp (maxSteps:=9^7) (disch:=first|with_reducible assumption|omega) only [dxB]|(simp only [kdB];split)|(simp only [kvB];split))
theorem Zen (J : Al G T g) (F : Fm) {md : Int} (hm : 1≤md∧md≤5) {z y s : Bool} {d b : Dy} (nd : Nz d) (nb : Nz b) (hd : Bd d 65537) (hb : Bd b 65537) (b0 : b.m≠0) :
  run G T 294 [workA F md,numA z (d,s),DyA y b] = some (.tup [.int .u64 ((ptQ F md d s b).1 : Int),.int .u8 ((ptQ F md d s b).2 : Int)]):=by
 rw [Zab G T J.J.Zen]
 have ma:=ZaL nd (hd.mono (by decide))
 have s1:=ZcL J (n:=d.n) (z:=z) (Zaq d.m) (e:=d.e)
 rw [ZgI ma] at s1
 unfold ptQ
 by_cases d0 : d.m = 0
 ·rw [if_pos d0] at s1 ⊢
  have w1:=ZkO J F (n:=s)
  generalize F.sgn s = S at *
  simp only [workA,numA,DyA,A3,cast0] at *
  repeat' (first|simp (maxSteps:=9^7) only [seval,exC,ZbQ,s1,w1]|simp (maxSteps:=9^7) (disch:=first|with_reducible assumption|omega) only [dxB]|(simp only [kdB];split)|(simp only [kvB];split))
 ·rw [if_neg d0] at s1 ⊢
  have hbl:=hd.bl
  have hbb:=hb.bl
  have r1:=Zps J F hm (z:=z) (y:=y) ma (ZaL nb (hb.mono (by decide))) d0 b0 (by unfold quoN; omega)
  generalize quoW F md d b = S at *
  obtain ⟨n,m,e⟩:=d
  simp only [workA,numA,DyA,A3] at *
  cases n <;> (simp only [Bool.false_eq_true,if_false,if_true] at s1; repeat' (first|simp (maxSteps:=9^7) only [seval,exC,ZbQ,s1,r1]|simp (maxSteps:=9^7) (disch:=first|with_reducible assumption|omega) only [dxB]|(simp only [kdB];split)|(simp only [kvB];split)))
theorem Zhs (J : Al G T g) (F : Fm) {md : Int} (hm : 1≤md∧md≤5) {z z' y s t : Bool} {d e b : Dy} (nd : Nz d) (ne : Nz e) (nb : Nz b) (hd : Bd d 65537) (he : Bd e 65537) (hb : Bd b 65537) (b0 : b.m≠0) :
  run G T 269 [workA F md,gaussA z z' (d,s) (e,t),DyA y b] = some (zrA (ptQ F md d s b) (ptQ F md e t b)):=by
 rw [Zab G T J.J.Zhs]
 have h1:=Zen J F hm (z:=z) (y:=y) (s:=s) nd nb hd hb b0
 have h2:=Zen J F hm (z:=z') (y:=y) (s:=t) ne nb he hb b0
 generalize ptQ F md d s b = S1 at *
 generalize ptQ F md e t b = S2 at *
 simp only [workA,numA,gaussA,zrA,DyA,A3] at *
 repeat' (first|simp (maxSteps:=9^7) only [seval,exC,Zdd,h1,h2]|simp (maxSteps:=9^7) (disch:=first|with_reducible assumption|omega) only [dxB]|(simp only [kdB];split)|(simp only [kvB];split))
theorem ZyW (J : Al G T g) : ∃ z,run G T 272 [.int .i64 1] = some (DyA z oneD):=by
 apply exP
 rw [Zab G T J.J.ZoL]
 obtain ⟨z1,h1⟩:=Zpk J (n:=1) (by decide)
 obtain ⟨z2,h2⟩:=ZbS J (n:=false) (z:=z1) (a:=1) (e:=0) (Zak (by decide)) (Or.inr (by rw [ZtK (by decide)]; omega)) (by omega)
 rw [show mkD false 1 0 = oneD from Zob (by decide)] at h2
 have w1 : IntKind.u64.wrap 1 = 1:=rfl
 rw [show ((1 : Nat) : Int) = 1 from rfl] at h1
 generalize oneD = d at *
 simp only [DyA,A3] at *
 repeat' (first|simp (maxSteps:=9^7) only [seval,exC,Zjt,w1,h1,h2]|simp (maxSteps:=9^7) (disch:=first|with_reducible assumption|omega) only [dxB]|(simp only [kdB];split)|(simp only [kvB];split))
 all_goals exact ⟨_,rfl,z2,rfl⟩
noncomputable def kV2 (G : Nat→Option (List AV)) (T : Tbl) (f : AV) (args : List AV) (d : Option Nat) (os : List IOper) (e : Env) (h : Heap) : Option (Env × Heap) :=
 kW G (CF G T) (match f with
  | .fn k cap => (T k).bind fun fn => kJ G fn.res (evL G T fn.body (numE 0 (args ++ cap)) h)
  | _ => none) d os e
theorem ZBZ (t : Nat) (args : List IOpd) (d : Option Nat) (os : List IOper) (e : Env) (h : Heap) :
  evOps G (CF G T) (⟨d,.call true (.t t) args,none⟩ :: os) e h = kV2 G T (opd e (.t t)) (args.map (opd e)) d os e h:=by
 rw [Zwh]
 unfold kV2
 refine congrArg (fun o => kW G (CF G T) o d os e) ?_
 simp only [evW]
 cases opd e (.t t) <;> try rfl
 rename_i k cap
 simp only [Zye]
 cases T k with
 | none => rfl
 | some fn =>
  simp only [Option.bind_some]
  cases evL G T fn.body (numE 0 (args.map (opd e) ++ cap)) h with
  | none => rfl
  | some r => obtain ⟨x,e,h⟩:=r; cases x <;> rfl
theorem ZIl {k : Nat} {fn : IFn} (hf : T k = some fn) (cap args : List AV) (d : Option Nat) (os : List IOper) (e : Env) (h : Heap) :
  kV2 G T (.fn k cap) args d os e h = kW G (CF G T) (kJ G fn.res (evL G T fn.body (numE 0 (args ++ cap)) h)) d os e:=by
 unfold kV2; simp only [hf,Option.bind_some]
theorem ZAD {k w : Nat} (h : w < 2 ^ k) : w ^^^ 2 ^ k = 2 ^ k + w:=by
 apply Nat.eq_of_testBit_eq
 intro j
 rw [Nat.testBit_xor]
 rcases Nat.lt_trichotomy j k with q | q | q
 ·rw [Nat.testBit_two_pow_of_ne (by omega),Nat.testBit_two_pow_add_gt q,Bool.xor_false]
 ·subst q
  rw [Nat.testBit_two_pow_self,Nat.testBit_two_pow_add_eq,Nat.testBit_lt_two_pow h]; rfl
 ·have h2:=Nat.pow_le_pow_right (n:=2) (by decide) (show k + 1≤j from q)
  rw [Nat.pow_succ] at h2
  rw [Nat.testBit_two_pow_of_ne (by omega),Nat.testBit_lt_two_pow (by omega),Nat.testBit_lt_two_pow (by omega)]; rfl
theorem ZGp (F : Fm) {w : Nat} (hw : w < 2 * F.sg) : w ^^^ F.sg = F.flip w:=by
 obtain ⟨k,hk⟩ : ∃ k,F.sg = 2 ^ k:=by cases F; exact ⟨31,rfl⟩; exact ⟨63,rfl⟩
 unfold Fm.flip Fm.ng Fm.sgn
 rw [hk] at hw ⊢
 have hp:=Nat.two_pow_pos k
 by_cases h : 2 ^ k≤w
 ·rw [decide_eq_true h,Bool.not_true,if_neg (by decide),Nat.mod_eq_sub_mod h,Nat.mod_eq_of_lt (by omega),Nat.add_zero]
  have e:=ZAD (k:=k) (w:=w - 2 ^ k) (by omega)
  rw [show 2 ^ k + (w - 2 ^ k) = w by omega] at e
  rw [← e,Nat.xor_assoc,Nat.xor_self,Nat.xor_zero]
  rw [e]
 ·rw [decide_eq_false h,Bool.not_false,if_pos rfl,Nat.mod_eq_of_lt (by omega),ZAD (by omega),Nat.add_comm]
theorem xor64 {a b : Nat} (ha : a < 18446744073709551616) (hb : b < 18446744073709551616) : xorI .u64 (a : Int) (b : Int) = ((a ^^^ b : Nat) : Int):=by
 have : a ^^^ b < 2 ^ 64:=Nat.xor_lt_two_pow (n:=64) ha hb
 rw [ZsF]
 show IntKind.u64.wrap ((BitVec.ofInt 64 a ^^^ BitVec.ofInt 64 b).toNat : Int) = _
 simp only [BitVec.toNat_xor,BitVec.toNat_ofInt,ZgX]
 have e1 : ((a : Int) % (2 ^ 64 : Nat)).toNat = a:=by omega
 have e2 : ((b : Int) % (2 ^ 64 : Nat)).toNat = b:=by omega
 rw [e1,e2]; omega
theorem ZoK (J : Al G T g) (F : Fm) {w : Nat} (hw : w < 2 * F.sg) : run G T 310 [.int .u8 F.u,.int .u64 (w : Int)] = some (.tup [.int .u64 (F.min w : Int),.int .i64 0]):=by
 rw [Zab G T J.J.ZoK]
 have h1:=Zhg J F (Zce hw)
 rw [if_pos hw] at h1
 have h2:=Zoo J F hw
 have h3:=ZsT J F
 have x1:=xor64 (a:=w) (b:=F.sg) (Zce hw) (by cases F <;> decide)
 rw [ZGp F hw] at x1
 have kv:=fun cap args d os e h => ZIl (G:=G) (T:=T) J.J.word_Neg_1 cap args d os e h
 have kt:=fun d args os e h => ZfH (G:=G) (T:=T) J.J.word_turned d args os e h
 unfold Fm.min
 by_cases h5 : F.cls w = 5
 ·rw [if_pos h5]
  rw [h5] at h2
  simp only [shA] at *
  repeat' (first|simp (maxSteps:=9^7) only [seval,exC,ZiX,kt,Zeg,h1,h2,h3]|simp (maxSteps:=9^7) (disch:=first|with_reducible assumption|omega) only [dxB]|(simp only [kdB];split)|(simp only [kvB];split))
 ·rw [if_neg h5]
  generalize F.cls w = c at *
  simp only [shA] at *
  repeat' (first|simp (maxSteps:=9^7) only [seval,exC,ZiX,kt,Zeg,h1,h2,h5,ZBZ,kv,Zij,Zzq,x1]|simp (maxSteps:=9^7) (disch:=first|with_reducible assumption|omega) only [dxB]|(simp only [kdB];split)|(simp only [kvB];split))
def sd (F : Fm) (w : Nat) (inf : Bool) : Int × Bool :=
 if F.cls w = 5 then (0,false) else if (if inf then F.cls w = 4 else F.cls w≠1) then (if F.ng w then (-1,true) else (1,false)) else (0,F.ng w)
def sT (a b : Int × Bool) : Int × Bool:=(a.1 * b.1,a.2 != b.2)
def sM (a : Int × Bool) : Int × Bool:=(-a.1,!a.2)
def sP (md : Int) (a b : Int × Bool) : Int × Bool:=if a.1 + b.1≠0 then (a.1 + b.1,decide (a.1 + b.1 < 0)) else if a.1 = 0∧a.2 = b.2 then a else (0,decide (md = 5))
def SdC (p : Int × Bool) : Prop:=p = (-1,true)∨p = (1,false)∨p = (0,true)∨p = (0,false)
theorem sd_c (F : Fm) (w : Nat) (inf : Bool) : SdC (sd F w inf):=by
 unfold sd SdC
 by_cases h : F.cls w = 5
 ·rw [if_pos h]; simp
 ·rw [if_neg h]
  by_cases k : (if inf then F.cls w = 4 else F.cls w≠1)
  ·rw [if_pos k]; cases F.ng w <;> simp
  ·rw [if_neg k]; cases F.ng w <;> simp
theorem sT_c {a b : Int × Bool} (ha : SdC a) (hb : SdC b) : SdC (sT a b):=by
 rcases ha with rfl | rfl | rfl | rfl <;> rcases hb with rfl | rfl | rfl | rfl <;> simp [SdC,sT]
theorem sM_c {a : Int × Bool} (ha : SdC a) : SdC (sM a):=by
 rcases ha with rfl | rfl | rfl | rfl <;> simp [SdC,sM]
def bxT (md : Int) (p q r s : Int × Bool) : (Int × Bool) × (Int × Bool):=(sP md (sT p r) (sM (sT q s)),sP md (sT p s) (sT q r))
def Fm.one (F : Fm) : Nat:=F.most / 2 * 2 ^ F.fr
def bw (F : Fm) (p : Int × Bool) : Nat:=if p.1 = 0 then F.sgn p.2 else F.one + F.sgn p.2
theorem ZlA (F : Fm) (n : Bool) : F.one≠0∧F.one < F.i0∧F.val (F.one + F.sgn n) = ⟨n,1,0⟩:=by
 have e : F.one = F.enc (2 ^ F.fr) (-F.fr):=by cases F <;> decide
 refine ⟨by cases F <;> decide,by cases F <;> decide,?_⟩
 rw [e,ZuN F n (by have:=Nat.two_pow_pos F.fr; omega) (by rw [Nat.pow_succ]; have:=Nat.two_pow_pos F.fr; omega) (by cases F <;> decide) (Or.inr (Nat.le_refl _)) (by cases F <;> decide)]
 have:=ZlR (n:=n) (m:=1) (e:=0) (by decide) F.fr
 rwa [Nat.one_mul,Int.zero_sub] at this
theorem ZsW (F : Fm) (n : Bool) : F.one + 2 ^ F.fr≠0∧F.one + 2 ^ F.fr < F.i0∧F.val (F.one + 2 ^ F.fr + F.sgn n) = ⟨n,1,1⟩:=by
 have e : F.one + 2 ^ F.fr = F.enc (2 ^ F.fr) (1 - F.fr):=by cases F <;> decide
 refine ⟨by cases F <;> decide,by cases F <;> decide,?_⟩
 rw [e,ZuN F n (by have:=Nat.two_pow_pos F.fr; omega) (by rw [Nat.pow_succ]; have:=Nat.two_pow_pos F.fr; omega) (by cases F <;> decide) (Or.inr (Nat.le_refl _)) (by cases F <;> decide)]
 have:=ZlR (n:=n) (m:=1) (e:=1) (by decide) F.fr
 rwa [Nat.one_mul] at this
theorem ZaE (F : Fm) (n : Bool) : F.sgn n < 2 * F.sg∧F.ng (F.sgn n) = n∧F.cls (F.sgn n) = 1∧F.vl (F.sgn n) = ⟨false,0,0⟩:=by
 have hi:=ZdJ F
 obtain ⟨g1,g2,g3⟩:=ZAF F n
 have h2:=(ZcR (F:=F) (s:=0) n (by omega)).2
 rw [Nat.zero_add] at h2
 exact ⟨g1,h2,by rw [ZbO g1 g2,g3],g3⟩
theorem ZiY (F : Fm) {s : Nat} {d : Dy} (n : Bool) (h0 : s≠0) (h1 : s < F.i0) (hv : F.val (s + F.sgn n) = d) (hm : d.m≠0) : s + F.sgn n < 2 * F.sg∧F.ng (s + F.sgn n) = n∧F.cls (s + F.sgn n)≠1∧F.fin (s + F.sgn n)∧F.vl (s + F.sgn n) = d∧∀ md,sumW F md d = (s + F.sgn n,0):=by
 have hi:=ZdJ F
 have hf:=Zdl (F:=F) n h1
 have hl : s + F.sgn n < 2 * F.sg:=by unfold Fm.sgn; split <;> omega
 have hvl : F.vl (s + F.sgn n) = d:=by rw [Zbm hf,hv]
 refine ⟨hl,(ZcR n (by omega)).2,fun q => ?_,hf,hvl,fun md => ?_⟩
 ·have:=(ZbO hl hf).1 q
  rw [hvl] at this; exact hm this
 ·have:=(Zla F md n h1 h0).1
  rw [hv] at this
  unfold sumW; rw [if_neg hm]; exact this
theorem Zbq (F : Fm) {p : Int × Bool} (hp : SdC p) : bw F p < 2 * F.sg∧F.ng (bw F p) = p.2∧F.fin (bw F p)∧(F.cls (bw F p) = 1↔p.1 = 0)∧F.vl (bw F p) = if p.1 = 0 then ⟨false,0,0⟩ else ⟨p.2,1,0⟩:=by
 unfold bw
 by_cases h : p.1 = 0
 ·simp only [if_pos h]
  obtain ⟨q1,q2,q3,q4⟩:=ZaE F p.2
  exact ⟨q1,q2,Zag.2 (Or.inl q3),by simp [q3,h],q4⟩
 ·simp only [if_neg h]
  obtain ⟨e1,e2,e3⟩:=ZlA F p.2
  obtain ⟨q1,q2,q3,q4,q5,_⟩:=ZiY F p.2 e1 e2 e3 Nat.one_ne_zero
  exact ⟨q1,q2,q4,by simp [q3,h],q5⟩
theorem ZFD (F : Fm) {p : Int × Bool} (hp : SdC p) : F.flip (bw F p) = bw F (sM p):=by
 have hi:=ZdJ F
 unfold Fm.flip
 rw [(Zbq F hp).2.1]
 unfold bw sM
 by_cases h : p.1 = 0
 ·rw [if_pos h,if_pos (by simp [h])]
  have:=(ZcR (F:=F) (s:=0) p.2 (by omega)).1
  rw [Nat.zero_add] at this
  rw [this,Nat.zero_add]
 ·rw [if_neg h,if_neg (by simp; omega)]
  obtain ⟨e1,e2,_⟩:=ZlA F p.2
  rw [(ZcR (F:=F) p.2 (by omega)).1]
theorem Zxq (F : Fm) (md : Int) {p r : Int × Bool} (hp : SdC p) (hr : SdC r) : mulW2 F md (bw F p) (bw F r) = (bw F (sT p r),0):=by
 obtain ⟨a1,a2,a3,a4,a5⟩:=Zbq F hp
 obtain ⟨b1,b2,b3,b4,b5⟩:=Zbq F hr
 unfold mulW2
 rw [Zsc F md (Zag.1 a3) (Zag.1 b3),a2,b2,a5,b5]
 by_cases h : p.1 = 0∨r.1 = 0
 ·rw [if_pos (by rw [a4,b4]; exact h)]
  unfold bw sT
  rw [if_pos (by rcases h with h | h <;> simp [h])]
 ·rw [if_neg (by rw [a4,b4]; exact h)]
  have h1 : p.1≠0:=fun q => h (Or.inl q)
  have h2 : r.1≠0:=fun q => h (Or.inr q)
  rw [if_neg h1,if_neg h2]
  have e : mulD ⟨p.2,1,0⟩ ⟨r.2,1,0⟩ = ⟨p.2 != r.2,1,0⟩:=Zob (show 1 * 1 % 2 = 1 from rfl)
  rw [e]
  obtain ⟨e1,e2,e3⟩:=ZlA F (p.2 != r.2)
  rw [(ZiY F _ e1 e2 e3 Nat.one_ne_zero).2.2.2.2.2 md]
  unfold bw sT
  rw [if_neg (by simp [h1,h2])]
theorem ZAQ (F : Fm) (md : Int) {p r : Int × Bool} (hp : SdC p) (hr : SdC r) : (addW F md (bw F p) (bw F r)).1 < 2 * F.sg ∧
  (((sP md p r).1 = 0∧F.cls (addW F md (bw F p) (bw F r)).1 = 1∧(addW F md (bw F p) (bw F r)).1 = F.sgn (sP md p r).2) ∨
   ((sP md p r).1≠0∧F.cls (addW F md (bw F p) (bw F r)).1≠1∧F.ng (addW F md (bw F p) (bw F r)).1 = (sP md p r).2)):=by
 obtain ⟨a1,a2,a3,a4,a5⟩:=Zbq F hp
 obtain ⟨b1,b2,b3,b4,b5⟩:=Zbq F hr
 have hz : ∀ n,F.sgn n < 2 * F.sg∧F.cls (F.sgn n) = 1:=fun n => ⟨(ZaE F n).1,(ZaE F n).2.2.1⟩
 have h1 : ∀ n,F.one + F.sgn n < 2 * F.sg∧F.cls (F.one + F.sgn n)≠1∧F.ng (F.one + F.sgn n) = n:=fun n => by
  obtain ⟨e1,e2,e3⟩:=ZlA F n
  obtain ⟨q1,q2,q3,_⟩:=ZiY F n e1 e2 e3 Nat.one_ne_zero
  exact ⟨q1,q3,q2⟩
 have h2 : ∀ n,F.one + 2 ^ F.fr + F.sgn n < 2 * F.sg∧F.cls (F.one + 2 ^ F.fr + F.sgn n)≠1∧F.ng (F.one + 2 ^ F.fr + F.sgn n) = n:=fun n => by
  obtain ⟨e1,e2,e3⟩:=ZsW F n
  obtain ⟨q1,q2,q3,_⟩:=ZiY F n e1 e2 e3 Nat.one_ne_zero
  exact ⟨q1,q3,q2⟩
 have s1 : ∀ n,sumW F md ⟨n,1,0⟩ = (F.one + F.sgn n,0):=fun n => by
  obtain ⟨e1,e2,e3⟩:=ZlA F n
  exact (ZiY F n e1 e2 e3 Nat.one_ne_zero).2.2.2.2.2 md
 have s2 : ∀ n,sumW F md ⟨n,1,1⟩ = (F.one + 2 ^ F.fr + F.sgn n,0):=fun n => by
  obtain ⟨e1,e2,e3⟩:=ZsW F n
  exact (ZiY F n e1 e2 e3 Nat.one_ne_zero).2.2.2.2.2 md
 have s0 : sumW F md ⟨false,0,0⟩ = (F.sgn (decide (md = 5)),0):=rfl
 have m2 : ∀ n,mkD n 2 0 = ⟨n,1,1⟩:=fun n => by
  have:=ZlR (n:=n) (m:=1) (e:=1) (by decide) 1
  exact this
 have m0 : ∀ n,mkD n 0 0 = ⟨false,0,0⟩:=fun n => Zdm n 0
 have hw : addW F md (bw F p) (bw F r) = if p.1 = 0∧r.1 = 0∧p.2 = r.2 then (F.sgn p.2,0) else sumW F md (addD (if p.1 = 0 then ⟨false,0,0⟩ else ⟨p.2,1,0⟩) (if r.1 = 0 then ⟨false,0,0⟩ else ⟨r.2,1,0⟩)):=by
  unfold addW
  rw [ZoV F md (Zag.1 a3) (Zag.1 b3),a2,b2,a5,b5]
  simp only [a4,b4]
 rw [hw]
 rcases hp with rfl | rfl | rfl | rfl <;> rcases hr with rfl | rfl | rfl | rfl <;>
  simp [addD,sP,s0,s1,s2,m2,m0,hz,h1,h2]
theorem ZIc (b : Nat) (k : IntKind) : iaddrAV 2 2 (.ptr b 0) (.int k 0) = some (.ptr b 0):=rfl
theorem ZHT (b : Nat) (k : IntKind) : iaddrAV 2 2 (.ptr b 0) (.int k 1) = some (.ptr b 2):=rfl
theorem ZIi (b : Nat) (k : IntKind) : iaddrAV 2 1 (.ptr b 0) (.int k 0) = some (.ptr b 0):=rfl
theorem ZHa (b : Nat) (k : IntKind) : iaddrAV 2 1 (.ptr b 0) (.int k 1) = some (.ptr b 1):=rfl
theorem ZIm (a b c d : AV) (k : IntKind) : indexV true 2 2 (.agg [a,b,c,d]) (.int k 0) = some (.agg [a,b]):=rfl
theorem ZGO (a b c d : AV) (k : IntKind) : indexV true 2 2 (.agg [a,b,c,d]) (.int k 1) = some (.agg [c,d]):=rfl
def sideA (p : Int × Bool) : AV:=.agg [.int .i64 p.1,.bool p.2]
def boxA (p q : Int × Bool) : AV:=.agg [.int .i64 p.1,.bool p.2,.int .i64 q.1,.bool q.2]
theorem ZaZ (J : Al G T g) {p q : Int × Bool} (hp : SdC p) (hq : SdC q) : run G T 308 [sideA p,sideA q] = some (sideA (sT p q)):=by
 rw [Zab G T J.J.ZaZ]
 have w : IntKind.i64.wrap (p.1 * q.1) = p.1 * q.1:=Zac (by rcases hp with rfl | rfl | rfl | rfl <;> rcases hq with rfl | rfl | rfl | rfl <;> decide)
 obtain ⟨n,s⟩:=p
 obtain ⟨k,t⟩:=q
 have hne : (s != t) = !decide (s = t):=by cases s <;> cases t <;> rfl
 simp only [sideA,sT,hne] at *
 repeat' (first|simp (maxSteps:=9^7) only [seval,exC,ZbK,w]|simp (maxSteps:=9^7) (disch:=first|with_reducible assumption|omega) only [dxB]|(simp only [kdB];split)|(simp only [kvB];split))
theorem Zez (J : Al G T g) {p : Int × Bool} (hp : SdC p) : run G T 302 [sideA p] = some (sideA (sM p)):=by
 rw [Zab G T J.J.Zez]
 rcases hp with rfl | rfl | rfl | rfl <;> (
  have w1 : IntKind.i64.wrap (- -1) = 1:=rfl
  have w2 : IntKind.i64.wrap (-1) = -1:=rfl
  have w3 : IntKind.i64.wrap 0 = 0:=rfl
  have w4 : IntKind.i64.wrap 1 = 1:=rfl
  have w5 : IntKind.i64.wrap (-0) = 0:=rfl
  simp only [sideA,sM,Int.neg_zero,Int.reduceNeg,Int.neg_neg,Bool.not_true,Bool.not_false] at *
  repeat' (first|simp (maxSteps:=9^7) only [seval,exC,ZbL,w1,w2,w3,w4,w5]|simp (maxSteps:=9^7) (disch:=first|with_reducible assumption|omega) only [dxB]|(simp only [kdB];split)|(simp only [kvB];split)))
theorem Zdf (J : Al G T g) {md : Int} {p q : Int × Bool} (hp : SdC p) (hq : SdC q) : run G T 309 [sideA p,sideA q,.int .u8 md] = some (sideA (sP md p q)):=by
 rw [Zab G T J.J.Zdf]
 have w : IntKind.i64.wrap (p.1 + q.1) = p.1 + q.1:=Zac (by rcases hp with rfl | rfl | rfl | rfl <;> rcases hq with rfl | rfl | rfl | rfl <;> decide)
 unfold sP
 obtain ⟨n,s⟩:=p
 obtain ⟨k,t⟩:=q
 simp only [sideA] at *
 by_cases h0 : n + k = 0
 ·have h0' : ¬ n + k≠0:=fun h => h h0
  rw [if_neg h0']
  by_cases h1 : n = 0
  ·by_cases h2 : s = t
   ·rw [if_pos ⟨h1,h2⟩]
    subst h2
    rw [h0] at w
    repeat' (first|simp (maxSteps:=9^7) only [seval,exC,ZaB,w,h0,h1]|simp (maxSteps:=9^7) (disch:=first|with_reducible assumption|omega) only [dxB]|(simp only [kdB];split)|(simp only [kvB];split))
   ·rw [if_neg (fun h => h2 h.2)]
    repeat' (first|simp (maxSteps:=9^7) only [seval,exC,ZaB,w,h0,h1,h2]|simp (maxSteps:=9^7) (disch:=first|with_reducible assumption|omega) only [dxB]|(simp only [kdB];split)|(simp only [kvB];split))
  ·rw [if_neg (fun h => h1 h.1)]
   repeat' (first|simp (maxSteps:=9^7) only [seval,exC,ZaB,w,h0,h1]|simp (maxSteps:=9^7) (disch:=first|with_reducible assumption|omega) only [dxB]|(simp only [kdB];split)|(simp only [kvB];split))
 ·rw [if_pos h0]
  repeat' (first|simp (maxSteps:=9^7) only [seval,exC,ZaB,w,h0]|simp (maxSteps:=9^7) (disch:=first|with_reducible assumption|omega) only [dxB]|(simp only [kdB];split)|(simp only [kvB];split))
theorem ZfU (J : Al G T g) (F : Fm) {w : Nat} {inf : Bool} (hw : w < 2 * F.sg) : run G T 307 [.int .u8 F.u,.int .u64 (w : Int),.bool inf] = some (sideA (sd F w inf)):=by
 rw [Zab G T J.J.ZfU]
 have h1:=Zbl J F hw
 have h2:=Zfm J F hw
 unfold sd
 generalize F.cls w = c at *
 generalize F.ng w = n at *
 generalize F.ex w = x at *
 generalize F.fc w = y at *
 simp only [fldA,sideA] at *
 by_cases h5 : c = 5
 ·subst h5
  rw [if_pos rfl]
  cases inf <;> repeat' (first|simp (maxSteps:=9^7) only [seval,exC,ZaK,h1,h2]|simp (maxSteps:=9^7) (disch:=first|with_reducible assumption|omega) only [dxB]|(simp only [kdB];split)|(simp only [kvB];split))
 ·rw [if_neg h5]
  cases inf
  ·simp only [Bool.false_eq_true,if_false]
   by_cases k : c = 1
   ·rw [if_neg (fun h => h k)]
    repeat' (first|simp (maxSteps:=9^7) only [seval,exC,ZaK,h1,h2,h5,k]|simp (maxSteps:=9^7) (disch:=first|with_reducible assumption|omega) only [dxB]|(simp only [kdB];split)|(simp only [kvB];split))
   ·rw [if_pos k]
    cases n <;> repeat' (first|simp (maxSteps:=9^7) only [seval,exC,ZaK,h1,h2,h5,k]|simp (maxSteps:=9^7) (disch:=first|with_reducible assumption|omega) only [dxB]|(simp only [kdB];split)|(simp only [kvB];split))
  ·simp only [if_true]
   by_cases k : c = 4
   ·rw [if_pos k]
    cases n <;> repeat' (first|simp (maxSteps:=9^7) only [seval,exC,ZaK,h1,h2,h5,k]|simp (maxSteps:=9^7) (disch:=first|with_reducible assumption|omega) only [dxB]|(simp only [kdB];split)|(simp only [kvB];split))
   ·rw [if_neg k]
    repeat' (first|simp (maxSteps:=9^7) only [seval,exC,ZaK,h1,h2,h5,k]|simp (maxSteps:=9^7) (disch:=first|with_reducible assumption|omega) only [dxB]|(simp only [kdB];split)|(simp only [kvB];split))
theorem ZgO (J : Al G T g) (F : Fm) {a b : Nat} {c : Int} (ha : a < 2 * F.sg) (hb : b < 2 * F.sg) : run G T 291 [.int .u8 F.u,zA a b,.int .u8 c] = some (boxA (sd F a (decide (c = 3))) (sd F b (decide (c = 3)))):=by
 rw [Zab G T J.J.ZgO]
 have h1:=ZfU J F (inf:=decide (c = 3)) ha
 have h2:=ZfU J F (inf:=decide (c = 3)) hb
 generalize sd F a (decide (c = 3)) = p at *
 generalize sd F b (decide (c = 3)) = q at *
 simp only [zA,sideA,boxA] at *
 repeat' (first|simp (maxSteps:=9^7) only [seval,exC,ZeD,h1,h2]|simp (maxSteps:=9^7) (disch:=first|with_reducible assumption|omega) only [dxB]|(simp only [kdB];split)|(simp only [kvB];split))
theorem Zfr (J : Al G T g) {md : Int} {p q r s : Int × Bool} (hp : SdC p) (hq : SdC q) (hr : SdC r) (hs : SdC s) :
  run G T 292 [boxA p q,boxA r s,.int .u8 md] = some (boxA (bxT md p q r s).1 (bxT md p q r s).2):=by
 rw [Zab G T J.J.Zfr]
 have h1:=ZaZ J hp hr
 have h2:=ZaZ J hq hs
 have h3:=Zez J (sT_c hq hs)
 have h4:=Zdf J (md:=md) (sT_c hp hr) (sM_c (sT_c hq hs))
 have h5:=ZaZ J hp hs
 have h6:=ZaZ J hq hr
 have h7:=Zdf J (md:=md) (sT_c hp hs) (sT_c hq hr)
 unfold bxT
 generalize sP md (sT p r) (sM (sT q s)) = x at *
 generalize sP md (sT p s) (sT q r) = y at *
 generalize sM (sT q s) = z at *
 generalize sT p r = t1 at *
 generalize sT q s = t2 at *
 generalize sT p s = t3 at *
 generalize sT q r = t4 at *
 simp only [sideA,boxA] at *
 repeat' (first|simp (maxSteps:=9^7) only [seval,exC,Zcj,ZIc,ZHT,h1,h2,h3,h4,h5,h6,h7]|simp (maxSteps:=9^7) (disch:=first|with_reducible assumption|omega) only [dxB]|(simp only [kdB];split)|(simp only [kvB];split))
def sideW (F : Fm) (size : Nat) (p : Int × Bool) : Nat:=if p.2 then F.min (if p.1≠0 then size else 0) else if p.1≠0 then size else 0
theorem ZEK (e : Env) (h : Heap) : evL G T Zcw e h = kS G T (evL G T Zcv (keepE [1,2,6,7,10,11] e) h) Zcw:=Zae G T rfl e h
set_option maxHeartbeats 4000000 in
theorem Zfc (J : Al G T g) (F : Fm) {size : Nat} (hs : size < 2 * F.sg) {p q : Int × Bool} : run G T 293 [boxA p q,.int .u8 F.u,.int .u64 (size : Int)] = some (zA (sideW F size p) (sideW F size q)):=by
 rw [Zab G T J.J.Zfc]
 have z0 : (0 : Nat) < 2 * F.sg:=by cases F <;> decide
 have n1:=ZoK J F hs
 have n2:=ZoK J F z0
 unfold sideW
 obtain ⟨n,s⟩:=p
 obtain ⟨k,t⟩:=q
 simp only [boxA,zA,cast0] at *
 by_cases h1 : n = 0 <;> by_cases h2 : k = 0 <;> cases s <;> cases t <;> simp only [h1,h2,ne_eq,not_true_eq_false,not_false_eq_true,if_true,if_false,Bool.false_eq_true,cast0] <;>
  repeat' (first|simp (maxSteps:=9^7) only [seval,exC,Zcf,ZIm,ZGO,ZIi,ZHa,ZEK,Zcv,h1,h2,n1,n2,wr_1,wr1,wr_2,wr2]|simp (maxSteps:=9^7) (disch:=first|with_reducible assumption|omega) only [dxB]|(simp only [kdB];split)|(simp only [kvB];split))
theorem ZiC (J : Al G T g) (F : Fm) {x : Nat} : run G T 290 [.int .u8 F.u,.int .u8 (x : Int)] = some (zrA (F.nan,x) (F.nan,x)):=by
 rw [Zab G T J.J.ZiC]
 have h1:=Zgg J F
 simp only [zrA]
 repeat' (first|simp (maxSteps:=9^7) only [seval,exC,ZfR,h1]|simp (maxSteps:=9^7) (disch:=first|with_reducible assumption|omega) only [dxB]|(simp only [kdB];split)|(simp only [kvB];split))
theorem Zql (J : Al G T g) (F : Fm) {n : Bool} : run G T 303 [.int .u8 F.u,.bool n] = some (.int .u64 ((F.one + F.sgn n : Nat) : Int)):=by
 rw [Zab G T J.J.Zql]
 have h1:=Zhp J F
 cases F
 ·have h2:=ZdZ J .s (n:=n) (x:=127) (w:=0) (by decide) (Or.inl (by decide))
  cases n <;> (
   simp only [fldA,Fm.u,Fm.one,Fm.most,Fm.fr,Fm.sgn,Fm.sg,Int.cast_ofNat_Int,Nat.reducePow,Nat.reduceMul,Nat.reduceDiv,Nat.reduceAdd,Bool.false_eq_true,if_false,if_true,cast0,Nat.add_zero] at *
   have q : IntKind.i64.wrap ((255 : Int).tdiv 2) = 127:=rfl
   repeat' (first|simp (maxSteps:=9^7) only [seval,exC,ZhD,h1,q,h2]|simp (maxSteps:=9^7) (disch:=first|with_reducible assumption|omega) only [dxB]|(simp only [kdB];split)|(simp only [kvB];split)))
 ·have h2:=ZdZ J .d (n:=n) (x:=1023) (w:=0) (by decide) (Or.inl (by decide))
  cases n <;> (
   simp only [fldA,Fm.u,Fm.one,Fm.most,Fm.fr,Fm.sgn,Fm.sg,Int.cast_ofNat_Int,Nat.reducePow,Nat.reduceMul,Nat.reduceDiv,Nat.reduceAdd,Bool.false_eq_true,if_false,if_true,cast0,Nat.add_zero] at *
   have q : IntKind.i64.wrap ((2047 : Int).tdiv 2) = 1023:=rfl
   repeat' (first|simp (maxSteps:=9^7) only [seval,exC,ZhD,h1,q,h2]|simp (maxSteps:=9^7) (disch:=first|with_reducible assumption|omega) only [dxB]|(simp only [kdB];split)|(simp only [kvB];split)))
def bxw (F : Fm) (w : Nat) (big : Bool) : Nat:=if big then F.one + F.sgn (decide (F.cls w≠5) && F.ng w) else F.sgn (decide (F.cls w≠5) && F.ng w)
theorem Zjg (J : Al G T g) (F : Fm) {w : Nat} {big : Bool} (hw : w < 2 * F.sg) : run G T 311 [.int .u8 F.u,.int .u64 (w : Int),.bool big] = some (.int .u64 (bxw F w big : Int)):=by
 rw [Zab G T J.J.Zjg]
 have h1:=Zav J F (Zce hw)
 have h2:=ZcM J F (Zce hw)
 have h3:=fun n => Zql J F (n:=n)
 have h4:=fun n => Zbi J F (n:=n) (w:=0)
 rw [Nat.zero_mod] at h4
 unfold bxw
 generalize F.cls w = c at *
 generalize F.ng w = n at *
 generalize F.ex w = x at *
 generalize F.fc w = y at *
 simp only [fldA,cast0,Nat.zero_add] at *
 by_cases h5 : c = 5
 ·have h3:=h3 false
  have h4:=h4 false
  subst h5
  simp only [ne_eq,not_true_eq_false,decide_false,Bool.false_and]
  cases big
  ·simp only [Bool.false_eq_true,if_false]
   generalize F.sgn false = s at *
   repeat' (first|simp (maxSteps:=9^7) only [seval,exC,ZdN,fd_3,h1,h4]|simp (maxSteps:=9^7) (disch:=first|with_reducible assumption|omega) only [dxB]|(simp only [kdB];split)|(simp only [kvB];split))
  ·simp only [if_true]
   generalize F.one + F.sgn false = s at *
   repeat' (first|simp (maxSteps:=9^7) only [seval,exC,ZdN,fd_3,h1,h3]|simp (maxSteps:=9^7) (disch:=first|with_reducible assumption|omega) only [dxB]|(simp only [kdB];split)|(simp only [kvB];split))
 ·have h3:=h3 n
  have h4:=h4 n
  simp only [ne_eq,h5,not_false_eq_true,decide_true,Bool.true_and]
  cases big
  ·simp only [Bool.false_eq_true,if_false]
   generalize F.sgn n = s at *
   repeat' (first|simp (maxSteps:=9^7) only [seval,exC,ZdN,fd_3,h1,h5,h2,h4]|simp (maxSteps:=9^7) (disch:=first|with_reducible assumption|omega) only [dxB]|(simp only [kdB];split)|(simp only [kvB];split))
  ·simp only [if_true]
   generalize F.one + F.sgn n = s at *
   repeat' (first|simp (maxSteps:=9^7) only [seval,exC,ZdN,fd_3,h1,h5,h2,h3]|simp (maxSteps:=9^7) (disch:=first|with_reducible assumption|omega) only [dxB]|(simp only [kdB];split)|(simp only [kvB];split))
theorem ZvD (F : Fm) {w : Nat} {inf : Bool} (h : inf = true∨F.cls w≠5) : bxw F w (if inf then decide (F.cls w = 4) else decide (F.cls w≠1)) = bw F (sd F w inf):=by
 unfold bxw bw sd
 cases inf
 ·have h5 : F.cls w≠5:=by rcases h with h | h; cases h; exact h
  simp only [Bool.false_eq_true,if_false,h5,ne_eq,not_false_eq_true,decide_true,Bool.true_and,decide_eq_true_eq]
  by_cases k : F.cls w = 1
  ·simp [k]
  ·cases F.ng w <;> simp [k]
 ·by_cases h5 : F.cls w = 5
  ·simp [h5]
  ·simp only [if_true,h5,ne_eq,not_false_eq_true,decide_true,Bool.true_and,decide_eq_true_eq,if_false]
   by_cases k : F.cls w = 4
   ·cases F.ng w <;> simp [k]
   ·simp [k]
theorem ZmP (J : Al G T g) (F : Fm) {a b : Nat} (ha : a < 2 * F.sg) (hb : b < 2 * F.sg) (h4 : zcl (F.cls a) (F.cls b)≠4) :
  run G T 300 [.int .u8 F.u,zA a b] = some (zA (bw F (sd F a (decide (zcl (F.cls a) (F.cls b) = 3)))) (bw F (sd F b (decide (zcl (F.cls a) (F.cls b) = 3))))):=by
 rw [Zab G T J.J.ZmP]
 have h1:=Zfb J F ha hb
 have c1:=Zav J F (Zce ha)
 have c2:=Zav J F (Zce hb)
 by_cases h3 : zcl (F.cls a) (F.cls b) = 3
 ·have e1:=ZvD F (w:=a) (inf:=true) (Or.inl rfl)
  have e2:=ZvD F (w:=b) (inf:=true) (Or.inl rfl)
  rw [decide_eq_true h3,← e1,← e2]
  simp only [if_true]
  have b1:=Zjg J F (big:=decide (F.cls a = 4)) ha
  have b2:=Zjg J F (big:=decide (F.cls b = 4)) hb
  generalize bxw F a (decide (F.cls a = 4)) = s1 at *
  generalize bxw F b (decide (F.cls b = 4)) = s2 at *
  rw [h3] at h1
  generalize F.cls a = ca at *
  generalize F.cls b = cb at *
  simp only [zA] at *
  repeat' (first|simp (maxSteps:=9^7) only [seval,exC,Zhr,h1,c1,c2,b1,b2]|simp (maxSteps:=9^7) (disch:=first|with_reducible assumption|omega) only [dxB]|(simp only [kdB];split)|(simp only [kvB];split))
 ·have n5 : F.cls a≠5∧F.cls b≠5:=by
   unfold zcl at h3 h4
   by_cases q : F.cls a = 4∨F.cls b = 4
   ·rw [if_pos q] at h3; exact absurd rfl h3
   ·rw [if_neg q] at h4
    by_cases r : F.cls a = 5∨F.cls b = 5
    ·rw [if_pos r] at h4; exact absurd rfl h4
    ·exact ⟨fun h => r (Or.inl h),fun h => r (Or.inr h)⟩
  have e1:=ZvD F (w:=a) (inf:=false) (Or.inr n5.1)
  have e2:=ZvD F (w:=b) (inf:=false) (Or.inr n5.2)
  simp only [Bool.false_eq_true,if_false,ne_eq,decide_not] at e1 e2
  rw [decide_eq_false h3,← e1,← e2]
  clear e1 e2
  have b1:=Zjg J F (big:=!decide (F.cls a = 1)) ha
  have b2:=Zjg J F (big:=!decide (F.cls b = 1)) hb
  generalize bxw F a (!decide (F.cls a = 1)) = s1 at *
  generalize bxw F b (!decide (F.cls b = 1)) = s2 at *
  generalize zcl (F.cls a) (F.cls b) = zc at *
  generalize F.cls a = ca at *
  generalize F.cls b = cb at *
  simp only [zA] at *
  repeat' (first|simp (maxSteps:=9^7) only [seval,exC,Zhr,h1,h3,c1,c2,b1,b2]|simp (maxSteps:=9^7) (disch:=first|with_reducible assumption|omega) only [dxB]|(simp only [kdB];split)|(simp only [kvB];split))
theorem Zkd (J : Al G T g) (F : Fm) {md : Int} (hm : 1≤md∧md≤5) {p q r s : Int × Bool} (hp : SdC p) (hq : SdC q) (hr : SdC r) (hs : SdC s) :
  run G T 299 [.int .u8 F.u,.int .u8 md,zA (bw F p) (bw F q),zA (bw F r) (bw F s)] = some (zA (addW F md (bw F (sT p r)) (bw F (sM (sT q s)))).1 (addW F md (bw F (sT p s)) (bw F (sT q r))).1):=by
 rw [Zab G T J.J.Zkd]
 have m1:=Zem J F hm (Zbq F hp).1 (Zbq F hr).1
 have m2:=Zem J F hm (Zbq F hq).1 (Zbq F hs).1
 have m3:=Zem J F hm (Zbq F hp).1 (Zbq F hs).1
 have m4:=Zem J F hm (Zbq F hq).1 (Zbq F hr).1
 rw [Zxq F md hp hr] at m1
 rw [Zxq F md hq hs] at m2
 rw [Zxq F md hp hs] at m3
 rw [Zxq F md hq hr] at m4
 have s1:=ZpR J F hm (Zbq F (sT_c hp hr)).1 (Zbq F (sT_c hq hs)).1
 rw [ZsJ F md (Zbq F (sT_c hq hs)).1,ZFD F (sT_c hq hs)] at s1
 have s2:=Zdx J F hm (Zbq F (sT_c hp hs)).1 (Zbq F (sT_c hq hr)).1
 generalize addW F md (bw F (sT p r)) (bw F (sM (sT q s))) = X at *
 generalize addW F md (bw F (sT p s)) (bw F (sT q r)) = Y at *
 simp only [zA] at *
 repeat' (first|simp (maxSteps:=9^7) only [seval,exC,ZeE,m1,m2,m3,m4,s1,s2]|simp (maxSteps:=9^7) (disch:=first|with_reducible assumption|omega) only [dxB]|(simp only [kdB];split)|(simp only [kvB];split))
def trn (F : Fm) (to w : Nat) : Nat:=if F.cls w = 1 then w else to % F.sg + F.sgn (F.ng w)
theorem Zse (e : Env) (h : Heap) : evL G T Zfq e h = kS G T (evL G T Zbj (keepE [0,2,6,7,8] e) h) Zfq:=Zae G T rfl e h
theorem Zlo (J : Al G T g) (F : Fm) {a b to : Nat} (ha : a < 2 * F.sg) (hb : b < 2 * F.sg) :
  run G T 298 [.int .u8 F.u,zA a b,.int .u64 (to : Int)] = some (zA (trn F to a) (trn F to b)):=by
 rw [Zab G T J.J.Zlo]
 have c1:=Zav J F (Zce ha)
 have c2:=Zav J F (Zce hb)
 have p1:=ZcM J F (Zce ha)
 have p2:=ZcM J F (Zce hb)
 have q1:=Zbi J F (n:=F.ng a) (w:=to)
 have q2:=Zbi J F (n:=F.ng b) (w:=to)
 unfold trn
 generalize to % F.sg + F.sgn (F.ng a) = s1 at *
 generalize to % F.sg + F.sgn (F.ng b) = s2 at *
 generalize F.ng a = n1 at *
 generalize F.ng b = n2 at *
 generalize F.ex a = x1 at *
 generalize F.ex b = x2 at *
 generalize F.fc a = y1 at *
 generalize F.fc b = y2 at *
 simp only [zA,fldA] at *
 by_cases k1 : F.cls a = 1 <;> by_cases k2 : F.cls b = 1
 ·rw [if_pos k1,if_pos k2]
  rw [k1] at c1
  rw [k2] at c2
  repeat' (first|simp (maxSteps:=9^7) only [seval,exC,ZbH,Zse,Zbj,fd_3,ZeK,c1,c2,wr_1,wr1,wr_2,wr2]|simp (maxSteps:=9^7) (disch:=first|with_reducible assumption|omega) only [dxB]|(simp only [kdB];split)|(simp only [kvB];split))
 ·rw [if_pos k1,if_neg k2]
  rw [k1] at c1
  repeat' (first|simp (maxSteps:=9^7) only [seval,exC,ZbH,Zse,Zbj,fd_3,ZeK,c1,c2,k2,p2,q2,wr_1,wr1,wr_2,wr2]|simp (maxSteps:=9^7) (disch:=first|with_reducible assumption|omega) only [dxB]|(simp only [kdB];split)|(simp only [kvB];split))
 ·rw [if_neg k1,if_pos k2]
  rw [k2] at c2
  repeat' (first|simp (maxSteps:=9^7) only [seval,exC,ZbH,Zse,Zbj,fd_3,ZeK,c1,k1,p1,q1,c2,wr_1,wr1,wr_2,wr2]|simp (maxSteps:=9^7) (disch:=first|with_reducible assumption|omega) only [dxB]|(simp only [kdB];split)|(simp only [kvB];split))
 ·rw [if_neg k1,if_neg k2]
  repeat' (first|simp (maxSteps:=9^7) only [seval,exC,ZbH,Zse,Zbj,fd_3,ZeK,c1,k1,p1,q1,c2,k2,p2,q2,wr_1,wr1,wr_2,wr2]|simp (maxSteps:=9^7) (disch:=first|with_reducible assumption|omega) only [dxB]|(simp only [kdB];split)|(simp only [kvB];split))
theorem ZgB (J : Al G T g) (F : Fm) {x : Nat} : run G T 297 [.int .u8 F.u,.int .u8 (x : Int)] = some (zrA (F.nan,x) (F.nan,x)):=by
 rw [Zab G T J.J.ZgB]
 have h1:=Zft J F
 simp only [zrA]
 repeat' (first|simp (maxSteps:=9^7) only [seval,exC,Zeh,h1]|simp (maxSteps:=9^7) (disch:=first|with_reducible assumption|omega) only [dxB]|(simp only [kdB];split)|(simp only [kvB];split))
theorem ZwN (F : Fm) (md : Int) {to : Nat} (ht : to = 0∨to = F.inf false) {p r : Int × Bool} (hp : SdC p) (hr : SdC r) : trn F to (addW F md (bw F p) (bw F r)).1 = sideW F to (sP md p r):=by
 have hi:=ZdJ F
 obtain ⟨_,h⟩:=ZAQ F md hp hr
 have z1 : F.cls 0 = 1:=(ZaE F false).2.2.1
 have z2 : F.cls (F.inf false) = 4:=ZsH F false
 have m0 : F.min 0 = F.sgn true:=by
  unfold Fm.min; rw [if_neg (by rw [z1]; decide)]; cases F <;> decide
 have m1 : F.min (F.inf false) = F.inf true:=by
  unfold Fm.min; rw [if_neg (by rw [z2]; decide)]; cases F <;> decide
 have r0 : ∀ n,0 % F.sg + F.sgn n = F.sgn n:=fun n => by rw [Nat.zero_mod,Nat.zero_add]
 have r1 : ∀ n,F.inf false % F.sg + F.sgn n = F.inf n:=fun n => by cases F <;> cases n <;> decide
 have s0 : F.sgn false = 0:=rfl
 unfold trn sideW
 rcases h with ⟨h1,h2,h3⟩ | ⟨h1,h2,h3⟩
 ·have e0 : ¬ ((sP md p r).1≠0):=fun h => h h1
  rw [if_pos h2,h3]
  simp only [if_neg e0]
  cases (sP md p r).2
  ·simp [s0]
  ·simp [m0]
 ·rw [if_neg h2,h3]
  simp only [if_pos h1]
  rcases ht with rfl | rfl
  ·rw [r0]
   cases (sP md p r).2
   ·simp [s0]
   ·simp [m0]
  ·rw [r1]
   cases (sP md p r).2
   ·simp
   ·simp [m1]
def apC (bs : List Blk) (f : List Nat) (b n : Nat) (o : Option Blk) (w : Option (List AV)) : Option (AV × Heap) :=
 match w with
 | some nw => match o with
  | some k => if k.dead = false∧f.contains b = false∧n * 1≤k.cs.length∧n + 1≤boundApp then some (.own bs.length 0 (n + 1) 1,⟨bs.set b ⟨k.cs,true⟩ ++ [⟨k.cs.take (n * 1) ++ nw,false⟩],f⟩) else none
  | none => none
 | none => none
theorem ZII (bs : List Blk) (f : List Nat) (b n c : Nat) : appV ⟨bs,f⟩ 1 1 (.own b 0 n 1) (.own c 0 1 1) = apC bs f b n (bs[b]?) (subB (bs[c]?) 0 1):=by
 have h1:=ZiH bs f c 0 1
 simp only [appV,sliceCells,if_true,Nat.one_mul,h1]
 cases subB (bs[c]?) 0 1 with
 | none => rfl
 | some nw =>
  simp only [Option.map_some,apC]
  cases bs[b]? with
  | none => rfl
  | some k => simp
theorem ZIH (bs : List Blk) (b : Nat) (cs nw : List AV) : apC bs [] b 0 (some ⟨cs,false⟩) (some nw) = some (.own bs.length 0 1 1,⟨bs.set b ⟨cs,true⟩ ++ [⟨nw,false⟩],[]⟩):=by
 simp [apC,boundApp]
theorem ZIz (bs : List Blk) (b : Nat) (x1 : AV) (nw : List AV) : apC bs [] b 1 (some ⟨[x1],false⟩) (some nw) = some (.own bs.length 0 2 1,⟨bs.set b ⟨[x1],true⟩ ++ [⟨x1 :: nw,false⟩],[]⟩):=by
 simp [apC,boundApp]
theorem ZBV (h : Mem) (x y : AV) (l : List AV) : rdAt G h 2 (.iptr (x :: y :: l) 0) = some [x,y]:=by simp [rdAt]
theorem ZBD (h : Mem) (x y u v : AV) (l : List AV) : rdAt G h 2 (.iptr (x :: y :: u :: v :: l) 2) = some [u,v]:=by simp [rdAt]
theorem ZEL (e : Env) (h : Heap) : evL G T Zff e h = kS G T (evL G T Zfn (keepE [0,10,27,28,29] e) h) Zff:=Zae G T rfl e h
theorem Zux (e : Env) (h : Heap) : evL G T ZhO e h = kS G T (evL G T ZcB (keepE [0,21,22,23] e) h) ZhO:=Zae G T rfl e h
theorem ZmX (J : Al G T g) (F : Fm) {w : Nat} (hw : w < 18446744073709551616) : run G T 312 [.int .u8 F.u,.int .u64 (w : Int)] = some (.int .i64 (if w < 2 * F.sg then 0 else 6)):=by
 rw [Zab G T J.J.ZmX]
 have h1:=Zhg J F hw
 generalize (if w < 2 * F.sg then (0 : Int) else 6) = e at *
 simp only [shA] at *
 repeat' (first|simp (maxSteps:=9^7) only [seval,exC,Zkr,h1]|simp (maxSteps:=9^7) (disch:=first|with_reducible assumption|omega) only [dxB]|(simp only [kdB];split)|(simp only [kvB];split))
theorem ZmV (J : Al G T g) (F : Fm) {a b : Nat} (ha : a < 18446744073709551616) (hb : b < 18446744073709551616) : run G T 304 [.int .u8 F.u,zA a b] = some (.int .i64 (if a < 2 * F.sg∧b < 2 * F.sg then 0 else 6)):=by
 rw [Zab G T J.J.ZmV]
 have h1:=ZmX J F ha
 have h2:=ZmX J F hb
 simp only [zA]
 by_cases k1 : a < 2 * F.sg
 ·rw [if_pos k1] at h1
  by_cases k2 : b < 2 * F.sg
  ·rw [if_pos k2] at h2
   rw [if_pos ⟨k1,k2⟩]
   repeat' (first|simp (maxSteps:=9^7) only [seval,exC,Zfl,h1,h2]|simp (maxSteps:=9^7) (disch:=first|with_reducible assumption|omega) only [dxB]|(simp only [kdB];split)|(simp only [kvB];split))
  ·rw [if_neg k2] at h2
   rw [if_neg (fun h => k2 h.2)]
   repeat' (first|simp (maxSteps:=9^7) only [seval,exC,Zfl,h1,h2]|simp (maxSteps:=9^7) (disch:=first|with_reducible assumption|omega) only [dxB]|(simp only [kdB];split)|(simp only [kvB];split))
 ·rw [if_neg k1] at h1
  rw [if_neg (fun h => k1 h.1)]
  repeat' (first|simp (maxSteps:=9^7) only [seval,exC,Zfl,h1]|simp (maxSteps:=9^7) (disch:=first|with_reducible assumption|omega) only [dxB]|(simp only [kdB];split)|(simp only [kvB];split))
def im2 (a b c d : Nat) : AV:=.imm 2 [.int .u64 (a : Int),.int .u64 (b : Int),.int .u64 (c : Int),.int .u64 (d : Int)]
theorem Zsj (J : Al G T g) (F : Fm) {md : Int} (hm : 1≤md∧md≤5) {a b c d : Nat} (ha : a < 2 * F.sg) (hb : b < 2 * F.sg) (hc : c < 2 * F.sg) (hd : d < 2 * F.sg) :
  run G T 289 [.int .u8 F.u,.int .u8 md,im2 a b c d] = some (.tup [.imm 2 [.int .u8 (zcl (F.cls a) (F.cls b)),.int .u8 (zcl (F.cls c) (F.cls d))],.int .i64 0]):=by
 rw [Zab G T J.J.special_open]
 have o1:=Zec J F hm (neg:=false)
 have c1:=ZdT J F ha hb
 have c2:=ZdT J F hc hd
 generalize zcl (F.cls a) (F.cls b) = x at *
 generalize zcl (F.cls c) (F.cls d) = y at *
 simp only [zA,im2] at *
 repeat' (first|simp (maxSteps:=9^7) only [seval,exC,ZfE,o1,c1,c2,ZEL,Zfn,ZCd,ZBU,fa_i,ZBV,ZBD,ZIH,ZIz,wr_1,wr1,wr_2,wr2,ZII,List.set_cons_zero,List.set_cons_succ,List.cons_append,List.nil_append ]|simp (maxSteps:=9^7) (disch:=first|with_reducible assumption|omega) only [dxB,ZAn]|(simp only [kdB];split)|(simp only [kvB];split))
theorem Zuu (J : Al G T g) (F : Fm) {md : Int} (hm : 1≤md∧md≤5) {a b c d : Nat} (ha : a < 18446744073709551616) (hb : b < 18446744073709551616) (hc : c < 18446744073709551616) (hd : d < 18446744073709551616) :
  run G T 286 [.int .u8 F.u,.int .u8 md,im2 a b c d] = some (.int .i64 (if (a < 2 * F.sg∧b < 2 * F.sg)∧(c < 2 * F.sg∧d < 2 * F.sg) then 0 else 6)):=by
 rw [Zab G T J.J.exact_open]
 have o1:=Zec J F hm (neg:=false)
 have c1:=ZmV J F ha hb
 have c2:=ZmV J F hc hd
 simp only [zA,im2] at *
 by_cases k : a < 2 * F.sg∧b < 2 * F.sg
 ·rw [if_pos k] at c1
  by_cases q : c < 2 * F.sg∧d < 2 * F.sg
  ·rw [if_pos q] at c2
   rw [if_pos ⟨k,q⟩]
   repeat' (first|simp (maxSteps:=9^7) only [seval,exC,ZdO,o1,c1,c2,Zux,ZcB,ZCd,ZBU,fa_i,ZBV,ZBD,wr_1,wr1,wr_2,wr2]|simp (maxSteps:=9^7) (disch:=first|with_reducible assumption|omega) only [dxB]|(simp only [kdB];split)|(simp only [kvB];split))
  ·rw [if_neg q] at c2
   rw [if_neg (fun h => q h.2)]
   repeat' (first|simp (maxSteps:=9^7) only [seval,exC,ZdO,o1,c1,c2,Zux,ZcB,ZCd,ZBU,fa_i,ZBV,ZBD,wr_1,wr1,wr_2,wr2]|simp (maxSteps:=9^7) (disch:=first|with_reducible assumption|omega) only [dxB]|(simp only [kdB];split)|(simp only [kvB];split))
 ·rw [if_neg k] at c1
  rw [if_neg (fun h => k h.1)]
  repeat' (first|simp (maxSteps:=9^7) only [seval,exC,ZdO,o1,c1,Zux,ZcB,ZCd,ZBU,fa_i,ZBV,ZBD,wr_1,wr1,wr_2,wr2]|simp (maxSteps:=9^7) (disch:=first|with_reducible assumption|omega) only [dxB]|(simp only [kdB];split)|(simp only [kvB];split))
end Go.Cv
