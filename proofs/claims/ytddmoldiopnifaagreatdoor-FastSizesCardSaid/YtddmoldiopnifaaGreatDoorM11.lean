/-
 A part of the proof of the statements of this seat (texts that the law's own text leans on): no condition.
-/
import Derived.Test.YtddmoldiopnifaaGreatDoorM10
import Derived.Test.YtddmoldiopnifaaGreatDoorM6
import Derived.Test.YtddmoldiopnifaaGreatDoorM8
import Derived.Test.YtddmoldiopnifaaGreatDoorM9
set_option linter.unusedVariables false
set_option linter.unusedSimpArgs false
namespace Go.Cv
def Nz (d : Dy) : Prop:=(d.m = 0→d = ⟨false,0,0⟩)∧(d.m≠0→d.m % 2 = 1)
theorem ZkY (n : Bool) (m : Nat) (e : Int) : Nz (mkD n m e):=by
 by_cases h : m = 0
 ·subst h; rw [Zca]; exact ⟨fun _ => rfl,fun h => absurd rfl h⟩
 ·have h0:=ZnU (n:=n) h e
  refine ⟨fun h1 => absurd h1 h0,fun _ => ?_⟩
  rw [Zar h]; exact (ZcY h).2
theorem ZoL {d : Dy} (h : Nz d) : Nz (negD d):=by
 unfold negD; split
 ·exact h
 ·next h0 => exact ⟨fun h1 => absurd h1 h0,h.2⟩
theorem Zht {a b : Dy} (ha : Nz a) (hb : Nz b) : Nz (addD a b):=by
 unfold addD; split
 ·exact hb
 ·split
  ·exact ha
  ·split
   ·exact ZkY ..
   ·split <;> exact ZkY ..
theorem ZEl (n : Int) : Nz (twoD n):=⟨fun h => Nat.noConfusion h,fun _ => rfl⟩
theorem Zrl {a b : Dy} {L : Int} (ha : Nz a) (hb : Nz b) (la : LoE a L) (lb : LoE b L) (h : iv a L = iv b L) : a = b:=by
 have hp:=fun d : Dy => Nat.two_pow_pos (d.e - L).toNat
 by_cases h0 : a.m = 0
 ·have h1 : b.m = 0:=by
   rw [ZaY h0] at h
   unfold iv at h
   have h2:=hp b
   rcases Nat.eq_zero_or_pos (b.m * 2 ^ (b.e - L).toNat) with h3 | h3
   ·rcases Nat.mul_eq_zero.1 h3 with h4 | h4
    ·exact h4
    ·omega
   ·exfalso
    generalize b.m * 2 ^ (b.e - L).toNat = X at *
    cases hb : b.n <;> simp [hb] at h <;> omega
  rw [ha.1 h0,hb.1 h1]
 ·have h1 : b.m≠0:=by
   intro h1
   rw [ZaY h1] at h
   unfold iv at h
   have h3:=Nat.mul_pos (Nat.pos_of_ne_zero h0) (hp a)
   generalize a.m * 2 ^ (a.e - L).toNat = X at *
   cases hb : a.n <;> simp [hb] at h <;> omega
  have p1:=Nat.mul_pos (Nat.pos_of_ne_zero h0) (hp a)
  have p2:=Nat.mul_pos (Nat.pos_of_ne_zero h1) (hp b)
  unfold iv at h
  have hX : a.m * 2 ^ (a.e - L).toNat = b.m * 2 ^ (b.e - L).toNat∧a.n = b.n:=by
   generalize a.m * 2 ^ (a.e - L).toNat = X at *
   generalize b.m * 2 ^ (b.e - L).toNat = Y at *
   cases ha : a.n <;> cases hb : b.n <;> simp [ha,hb] at h ⊢ <;> omega
  obtain ⟨hX,hn⟩:=hX
  have t1:=Zei (k:=(a.e - L).toNat) (ha.2 h0)
  have t2:=Zei (k:=(b.e - L).toNat) (hb.2 h1)
  rw [hX,t2] at t1
  have l1:=la.resolve_left h0
  have l2:=lb.resolve_left h1
  have he : a.e = b.e:=by omega
  rw [he] at hX
  have hm:=Nat.eq_of_mul_eq_mul_right (hp b) hX
  obtain ⟨n,m,e⟩:=a
  obtain ⟨n',m',e'⟩:=b
  simp only at *
  subst he hm hn; rfl
theorem Zow {x : Int} : sgI x < 0↔x < 0:=by unfold sgI; split <;> (try split) <;> omega
theorem Zqo {x : Int} : 0 < sgI x↔0 < x:=by unfold sgI; split <;> (try split) <;> omega
theorem ZGs (n : Bool) (f : Nat) (e u : Int) : shD (mkD n f e) u = mkD n f (e + u)∨f = 0:=by
 by_cases h : f = 0
 ·exact Or.inr h
 ·left
  have:=ZnU (n:=n) h e
  unfold shD; rw [if_neg this,Zar h,Zar h]; simp only [Dy.mk.injEq,true_and]; omega
theorem ZGt (n : Bool) (f : Nat) (u : Int) : shD (mkD n f 0) u = mkD n f u:=by
 rcases ZGs n f 0 u with h | h
 ·rw [h,Int.zero_add]
 ·subst h; rfl
theorem ZhK (m : Nat) {k : Nat} (hk : 0 < k) : m % 2 ^ k = (if halfN m k then 2 ^ (k - 1) else 0) + m % 2 ^ (k - 1)∧m % 2 ^ (k - 1) < 2 ^ (k - 1)∧2 ^ k = 2 * 2 ^ (k - 1):=by
 obtain ⟨i,rfl⟩ : ∃ i,k = i + 1:=⟨k - 1,by omega⟩
 refine ⟨?_,Nat.mod_lt _ (Nat.two_pow_pos _),by rw [Nat.add_sub_cancel,Nat.pow_succ]; omega⟩
 rw [Nat.pow_succ,Nat.mod_mul,Nat.add_sub_cancel]
 simp only [halfN,Nat.add_sub_cancel]
 have : m / 2 ^ i % 2 = 0∨m / 2 ^ i % 2 = 1:=by omega
 rcases this with h | h <;> simp [h] <;> omega
theorem ZxK {m k : Nat} (ho : m % 2 = 1) (hk : 0 < k) : m % 2 ^ k≠0:=by
 obtain ⟨i,rfl⟩ : ∃ i,k = i + 1:=⟨k - 1,by omega⟩
 intro h
 have : m % 2 ^ (i + 1) % 2 = m % 2:=Nat.mod_mod_of_dvd _ ⟨2 ^ i,by rw [Nat.pow_succ]; omega⟩
 omega
theorem ZDd (n : Bool) (f : Nat) : sameD (floorD (shD (mkD n f 0) (-1))) (shD (mkD n f 0) (-1))↔f % 2 = 0:=by
 by_cases h : f = 0
 ·subst h; rw [Zca]; exact ⟨fun _ => rfl,fun _ => ⟨rfl,rfl,rfl⟩⟩
 ·have h0:=ZnU (n:=n) h 0
  have e1 : shD (mkD n f 0) (-1) = ⟨n,f / 2 ^ tz f,tz f - 1⟩:=by
   unfold shD; rw [if_neg h0,Zar h]; simp only [Dy.mk.injEq,true_and]; omega
  rw [e1]
  rcases Nat.mod_two_eq_zero_or_one f with h2 | h2
  ·have ht:=ZsH h h2
   have : floorD ⟨n,f / 2 ^ tz f,tz f - 1⟩ = ⟨n,f / 2 ^ tz f,tz f - 1⟩:=by unfold floorD; rw [if_pos (by simp only; omega)]
   rw [this]; exact ⟨fun _ => h2,fun _ => ⟨rfl,rfl,rfl⟩⟩
  ·have ht:=ZrQ h2
   constructor
   ·intro hs
    exfalso
    unfold floorD at hs
    rw [if_neg (by simp only; omega)] at hs
    obtain ⟨_,h3,h4⟩:=hs
    simp only [ht] at h3 h4
    generalize hF : f / 2 ^ 0 / 2 ^ (-((0 : Nat) - 1 : Int)).toNat + (if (n && !decide (f / 2 ^ 0 % 2 ^ (-((0 : Nat) - 1 : Int)).toNat = 0)) = true then 1 else 0) = Q at *
    by_cases hq : Q = 0
    ·rw [hq,Zca] at h3; simp at h3
    ·rw [Zar hq] at h3; simp only at h3; omega
   ·intro h3; omega
theorem ZtS {x : Dy} {u : Int} (ho : x.m % 2 = 1) (hu : x.e < u) : lowD x u = mkD x.n (x.m / 2 ^ (u - x.e).toNat + x.n.toNat) u:=by
 have h0 : x.m≠0:=by intro h; rw [h] at ho; cases ho
 have e1 : shD x (-u) = ⟨x.n,x.m,x.e - u⟩:=by unfold shD; rw [if_neg h0]; rfl
 unfold lowD
 rw [e1]
 unfold floorD
 rw [if_neg (by simp only; omega),ZGt]
 simp only
 rw [show (-(x.e - u)).toNat = (u - x.e).toNat by omega,decide_eq_false (ZxK ho (by omega))]
 cases x.n <;> rfl
theorem ZxA {x : Dy} {u : Int} (ho : x.m % 2 = 1) (hu : u≤x.e) : lowD x u = x:=by
 have h0 : x.m≠0:=by intro h; rw [h] at ho; cases ho
 have e1 : shD x (-u) = ⟨x.n,x.m,x.e - u⟩:=by unfold shD; rw [if_neg h0]; rfl
 unfold lowD
 rw [e1]
 unfold floorD
 rw [if_pos (by simp only; omega)]
 unfold shD
 rw [if_neg h0]
 obtain ⟨n,m,e⟩:=x
 simp only [Dy.mk.injEq,true_and]; omega
theorem Zsj {x : Dy} {u : Int} (ho : x.m % 2 = 1) (hu : x.e < u) : highD x u = mkD x.n (if x.n then x.m / 2 ^ (u - x.e).toNat else x.m / 2 ^ (u - x.e).toNat + 1) u:=by
 unfold highD
 rw [ZtS ho hu]
 have l1 : LoE (mkD x.n (x.m / 2 ^ (u - x.e).toNat + x.n.toNat) u) u:=ZcU (Int.le_refl _)
 have l2 : LoE (twoD u) u:=Or.inr (Int.le_refl _)
 have ha:=Zgr l1 l2
 refine Zrl (L:=u) (Zht (ZkY ..) (ZEl u)) (ZkY ..) ha.2 (ZcU (Int.le_refl _)) ?_
 rw [ha.1,Zhr (Int.le_refl _),Zhr (Int.le_refl _),ZFv]
 cases x.n <;> simp [Int.sub_self] <;> omega
theorem ZEL {x : Dy} {u : Int} (ho : x.m % 2 = 1) (hu : x.e < u) : cmpD (subD x (lowD x u)) (subD (highD x u) x) =
  sgI ((if x.n then -1 else 1) * (2 * ((x.m % 2 ^ (u - x.e).toNat : Nat) : Int) - ((2 ^ (u - x.e).toNat : Nat) : Int))):=by
 have lx : LoE x x.e:=Or.inr (Int.le_refl _)
 have ll : LoE (lowD x u) x.e:=by rw [ZtS ho hu]; exact ZcU (by omega)
 have lh : LoE (highD x u) x.e:=by rw [Zsj ho hu]; exact ZcU (by omega)
 have s1:=ZnN lx ll
 have s2:=ZnN lh lx
 rw [Znq s1.2 s2.2,s1.1,s2.1,ZtS ho hu,Zsj ho hu,Zhr (by omega),Zhr (by omega)]
 have hx : iv x x.e = (if x.n then -1 else 1) * (x.m : Int):=by unfold iv; rw [Int.sub_self]; simp
 rw [hx]
 have hd:=Nat.div_add_mod x.m (2 ^ (u - x.e).toNat)
 congr 1
 generalize 2 ^ (u - x.e).toNat = P at *
 have e1 : (x.m : Int) = (P : Int) * ((x.m / P : Nat) : Int) + ((x.m % P : Nat) : Int):=by rw [← Int.natCast_mul,← Int.natCast_add,hd]
 generalize x.m % P = R at *
 generalize x.m / P = W at *
 rw [e1]
 have e2 : ((W * P : Nat) : Int) = (P : Int) * (W : Int):=by rw [Int.natCast_mul,Int.mul_comm]
 have e3 : (((W + 1) * P : Nat) : Int) = (P : Int) * (W : Int) + P:=by rw [Nat.add_mul,Nat.one_mul,Int.natCast_add,e2]
 cases x.n
 ·simp only [Bool.false_eq_true,if_false,Bool.toNat_false,Nat.add_zero,Int.one_mul,e2,e3]; generalize (P : Int) * (W : Int) = Q; omega
 ·simp only [if_true,Bool.toNat_true,e2,e3]; generalize (P : Int) * (W : Int) = Q; omega
theorem ZrO {md : Int} {x : Dy} {u : Int} (hm : 1≤md∧md≤5) (ho : x.m % 2 = 1) :
  takenD md x u = mkD x.n (rnd md x.n x.m x.e u).1 u∧(sameD x (takenD md x u)↔(rnd md x.n x.m x.e u).2 = true):=by
 have h0 : x.m≠0:=by intro h; rw [h] at ho; cases ho
 by_cases hu : u≤x.e
 ·have hl:=ZxA ho hu
  have ht : takenD md x u = x:=by unfold takenD; rw [if_pos (by rw [hl]; exact ⟨rfl,rfl,rfl⟩)]
  have hr : rnd md x.n x.m x.e u = (x.m * 2 ^ (x.e - u).toNat,true):=by unfold rnd; rw [if_pos hu]
  rw [ht,hr]
  refine ⟨?_,⟨fun _ => rfl,fun _ => ⟨rfl,rfl,rfl⟩⟩⟩
  have hne : x.m * 2 ^ (x.e - u).toNat≠0:=by have:=Nat.mul_pos (Nat.pos_of_ne_zero h0) (Nat.two_pow_pos (x.e - u).toNat); omega
  rw [Zar hne,Zei ho,Nat.mul_div_cancel _ (Nat.two_pow_pos _)]
  obtain ⟨n,m,e⟩:=x
  simp only [Dy.mk.injEq,true_and]
  simp only at hu; omega
 ·have hu : x.e < u:=by omega
  have hl:=ZtS ho hu
  have hh:=Zsj ho hu
  have hc:=ZEL ho hu
  have hns : ∀ f,¬ sameD (mkD x.n f u) x:=by
   rintro f ⟨_,h1,h2⟩
   by_cases hf : f = 0
   ·subst hf; rw [Zca] at h2; exact h0 h2.symm
   ·rw [Zar hf] at h1; simp only at h1; omega
  have hsy : ∀ a b,sameD a b→sameD b a:=fun a b ⟨p,q,r⟩ => ⟨p.symm,q.symm,r.symm⟩
  have hev : evenD x u↔(x.m / 2 ^ (u - x.e).toNat + x.n.toNat) % 2 = 0:=by
   have e1 : shD (lowD x u) (-u) = mkD x.n (x.m / 2 ^ (u - x.e).toNat + x.n.toNat) 0:=by
    rw [hl]
    rcases ZGs x.n (x.m / 2 ^ (u - x.e).toNat + x.n.toNat) u (-u) with h | h
    ·rw [h]; congr 1; omega
    ·rw [h]; rfl
   unfold evenD
   rw [e1]; exact ZDd ..
  have hk : 0 < (u - x.e).toNat:=by omega
  obtain ⟨q1,q2,q3⟩:=ZhK x.m hk
  have q4:=ZxK ho hk
  have hr : rnd md x.n x.m x.e u = rdN md x.n x.m false (u - x.e).toNat:=by unfold rnd; rw [if_neg (by omega)]
  rw [hr]
  have main : takenD md x u = mkD x.n (rdN md x.n x.m false (u - x.e).toNat).1 u:=by
   unfold takenD
   rw [if_neg (by rw [hl]; exact hns _)]
   simp only [hc,hev]
   rw [hl,hh]
   simp only [rdN]
   have hmo : moreN x.m false (u - x.e).toNat = decide (x.m % 2 ^ ((u - x.e).toNat - 1)≠0):=by simp [moreN]
   rw [hmo]
   generalize halfN x.m (u - x.e).toNat = hf at *
   generalize x.m % 2 ^ ((u - x.e).toNat - 1) = S at *
   generalize x.m % 2 ^ (u - x.e).toNat = R at *
   generalize x.m / 2 ^ (u - x.e).toNat = W at *
   rw [q3]
   generalize 2 ^ ((u - x.e).toNat - 1) = P at *
   have hmd : md = 1∨md = 2∨md = 3∨md = 4∨md = 5:=by omega
   simp only [Zow,Zqo]
   rcases Nat.mod_two_eq_zero_or_one W with hW | hW <;> cases hn : x.n <;> cases hf <;> by_cases hS : S = 0 <;> rcases hmd with rfl | rfl | rfl | rfl | rfl <;>
    simp [upB,hS,hW] at q1 q4 ⊢ <;> (try omega) <;> (repeat (first | rw [if_pos (by omega)] | rw [if_neg (by omega)])) <;> (try (intro _; rfl))
  refine ⟨main,?_⟩
  constructor
  ·intro hs; rw [main] at hs; exact absurd (hsy _ _ hs) (hns _)
  ·intro hs
   exfalso
   simp only [rdN,moreN,Bool.false_or,Bool.and_eq_true,Bool.not_eq_true',decide_eq_false_iff_not,ne_eq,Decidable.not_not] at hs
   rw [hs.1,hs.2] at q1
   simp at q1; exact q4 q1
theorem ZjL (F : Fm) {md : Int} {d : Dy} (h : d.m≠0) : (rnd md d.n d.m d.e (F.eOf (d.e + blen d.m))).1≤2 ^ (F.fr + 1) ∧
  (F.eOf (d.e + blen d.m) = F.low∨2 ^ F.fr≤(rnd md d.n d.m d.e (F.eOf (d.e + blen d.m))).1) ∧
  (rnd md d.n d.m d.e (d.e + blen d.m - F.fr - 1)).1≤2 ^ (F.fr + 1)∧2 ^ F.fr≤(rnd md d.n d.m d.e (d.e + blen d.m - F.fr - 1)).1:=by
 have hF:=ZaM F
 have hw:=Zml h
 have e1:=ZmT md d.n h d.e (F.eOf (d.e + blen d.m)) (by unfold Fm.eOf; omega)
 have e2:=ZmT md d.n h d.e (d.e + blen d.m - F.fr - 1) (by omega)
 have hE : F.eOf (d.e + blen d.m) = max (d.e + blen d.m - F.fr - 1) F.low:=rfl
 change rdN md d.n (headN d.m) (behindN d.m) _ = _ at e1 e2
 rw [← e1,← e2]
 rw [show (d.e + (blen d.m : Int) - F.fr - 1 - (d.e + blen d.m) + 64).toNat = 63 - F.fr by omega]
 refine ⟨Zuk hw (by omega),?_,Zuk hw (by omega),?_⟩
 ·by_cases hl : F.eOf (d.e + blen d.m) = F.low
  ·exact Or.inl hl
  ·right
   rw [show (F.eOf (d.e + (blen d.m : Int)) - (d.e + blen d.m) + 64).toNat = 63 - F.fr by omega]
   have:=Zyc (md:=md) (neg:=d.n) (more:=behindN d.m) hw (k:=63 - F.fr) (by omega)
   rwa [show 63 - (63 - F.fr) = F.fr by omega] at this
 ·have:=Zyc (md:=md) (neg:=d.n) (more:=behindN d.m) hw (k:=63 - F.fr) (by omega)
  rwa [show 63 - (63 - F.fr) = F.fr by omega] at this
theorem ZEq (n : Bool) (m : Nat) (e : Int) : absD (mkD n m e) = mkD false m e:=by
 by_cases h : m = 0
 ·subst h; rfl
 ·rw [Zar h,Zar h]; rfl
theorem ZyV {n : Bool} {m : Nat} (h : m≠0) (e : Int) : topD (mkD n m e) = e + blen m:=by
 unfold topD; rw [if_neg (ZnU h e),Zlx h]
end Go.Cv
namespace Go.Cv
variable {G : Nat→Option (List AV)} {T : Tbl} {g : Nat}
theorem Zqf (J : Al G T g) (F : Fm) {z : Bool} : run G T 36 [.int .u8 F.u,DyA z ⟨false,0,0⟩] = some (.tup [.int .u64 0,.bool true]):=by
 rw [Zac G T J.D.ZmW]
 have h1:=Zcf J (z:=z) (d:=⟨false,0,0⟩)
 rw [show sgnD ⟨false,0,0⟩ = 0 from rfl] at h1
 simp only [DyA,A3] at *
 repeat' (first|simp (maxSteps:=9^7) only [seval,exC,Zbz,h1]|simp (maxSteps:=9^7) (disch:=first|with_reducible assumption|omega) only [dxB]|(simp only [kdB];split)|(simp only [kvB];split))
theorem Zsy (J : Al G T g) (F : Fm) {z : Bool} {n : Nat} {e : Int} (h1 : n≤2 ^ (F.fr + 1)) (h2 : F.low≤e) (h3 : blen n + e≤F.wide) (h4 : e = F.low∨2 ^ F.fr≤n) :
  run G T 36 [.int .u8 F.u,DyA z (mkD false n e)] = some (.tup [.int .u64 ((F.enc n e : Nat) : Int),.bool true]):=by
 by_cases h0 : n = 0
 ·subst h0
  have : e = F.low:=by
   rcases h4 with h | h
   ·exact h
   ·have:=Nat.two_pow_pos F.fr; omega
  rw [Zca,this,Zqf J F]
  simp [Fm.enc]
 ·have hf:=Zkk (F:=F) (neg:=false) h0 h1 h2 (by omega)
  rw [ZmW J F (z:=z) hf,ZpR h0 h1 h2 h4,Zsp h0]
  simp [Fm.sgn]
theorem ZEV {F : Fm} {n : Nat} {e : Int} (h1 : n≤2 ^ (F.fr + 1)) (h2 : F.low≤e) (h3 : blen n + e≤F.wide) (h4 : e = F.low∨2 ^ F.fr≤n) : F.enc n e < F.sg:=by
 by_cases h0 : n = 0
 ·subst h0
  have : e = F.low:=by
   rcases h4 with h | h
   ·exact h
   ·have:=Nat.two_pow_pos F.fr; omega
  rw [this]; simp only [Fm.enc,Int.sub_self]; cases F <;> decide
 ·have h:=Ztm (Zkk (F:=F) (neg:=false) h0 h1 h2 (by omega))
  rw [ZpR h0 h1 h2 h4] at h
  have hb64 : F.most * 2 ^ F.fr≤F.sg:=by cases F <;> decide
  omega
set_option maxRecDepth 4000 in
set_option maxHeartbeats 4000000 in
theorem ZkN (J : Al G T g) (F : Fm) {m : Int} (hm : 1≤m∧m≤5) {z : Bool} {x : Dy} (hx : Nz x) (hb : Bd x 134217728) :
  run G T 12 [.int .u8 F.u,.int .u8 m,DyA z x] = some (.tup [.int .u64 ((rndW F m x).1 : Int),.int .u8 ((rndW F m x).2 : Int)]):=by
 rw [Zac G T J.E.ZkN]
 have s1:=Zcf J (z:=z) (d:=x)
 by_cases h0 : x.m = 0
 ·rw [show sgnD x = 0 by simp [sgnD,h0]] at s1
  simp only [rndW,if_pos h0]
  simp only [DyA,A3] at *
  repeat' (first|simp (maxSteps:=9^7) only [seval,exC,Zbr,s1]|simp (maxSteps:=9^7) (disch:=first|with_reducible assumption|omega) only [dxB]|(simp only [kdB];split)|(simp only [kvB];split))
  all_goals rfl
 ·have hs : ¬ sgnD x = 0:=by simp only [sgnD,if_neg h0]; split <;> decide
  have ho:=hx.2 h0
  have hF:=ZaM F
  obtain ⟨hb1,hb2,hb3⟩:=hb
  have hl:=Zaa x.m
  have s2:=Zeh J (z:=z) (d:=x) (by omega) (by omega)
  rw [show topD x = x.e + blen x.m by simp [topD,h0]] at s2
  have hU : x.e + (blen x.m : Int) - (F.fr + 1) = x.e + blen x.m - F.fr - 1:=by omega
  have hE : F.eOf (x.e + blen x.m) = max (x.e + blen x.m - F.fr - 1) F.low:=rfl
  obtain ⟨r1,r2,r3,r4⟩:=ZjL F (md:=m) h0
  have hp : 2 ^ (F.fr + 1)≤9007199254740992:=by cases F <;> decide
  have f1:=ZdF J F
  have f2:=ZjE J F
  have f3:=Zkn J F
  obtain ⟨z1,t1⟩:=ZiN J (md:=m) (z:=z) (x:=x) (u:=F.eOf (x.e + blen x.m)) ⟨by omega,by omega,by omega⟩ (by omega)
  obtain ⟨z2,t2⟩:=ZiN J (md:=m) (z:=z) (x:=x) (u:=x.e + blen x.m - F.fr - 1) ⟨by omega,by omega,by omega⟩ (by omega)
  obtain ⟨e1,e2⟩:=ZrO (u:=F.eOf (x.e + blen x.m)) hm ho
  have e3:=(ZrO (u:=x.e + blen x.m - F.fr - 1) hm ho).1
  have c1:=ZsD J (z:=z) (y:=z1) (a:=x) (b:=takenD m x (F.eOf (x.e + blen x.m))) (by omega)
  have e2' : decide (sameD x (takenD m x (F.eOf (x.e + blen x.m)))) = (rnd m x.n x.m x.e (F.eOf (x.e + blen x.m))).2:=by
   rw [Bool.eq_iff_iff,decide_eq_true_eq]; exact e2
  rw [e2'] at c1
  rw [e1] at t1 c1
  rw [e3] at t2
  have o1:=Zmu J F hm (neg:=x.n)
  have hrw : rndW F m x = wordOf F m x.n (rnd m x.n x.m x.e (F.eOf (x.e + blen x.m))).1 (rnd m x.n x.m x.e (F.eOf (x.e + blen x.m))).2 (F.eOf (x.e + blen x.m)) (x.e + blen x.m) (rnd m x.n x.m x.e (x.e + blen x.m - F.fr - 1)).1:=by
   simp only [rndW,if_neg h0]
  rw [hrw]
  have hnf : F.eOf (x.e + blen x.m) = x.e + blen x.m - F.fr - 1→(rnd m x.n x.m x.e (F.eOf (x.e + blen x.m))).1 = (rnd m x.n x.m x.e (x.e + blen x.m - F.fr - 1)).1:=fun h => by rw [h]
  clear e1 e2 e3 e2' hrw
  generalize rnd m x.n x.m x.e (F.eOf (x.e + blen x.m)) = R at *
  generalize rnd m x.n x.m x.e (x.e + blen x.m - F.fr - 1) = R2 at *
  obtain ⟨n,ex⟩:=R
  obtain ⟨fine,ex2⟩:=R2
  simp only at *
  have q1 : blen n≤54:=Zae.2 (by omega)
  have q2 : blen fine≤54:=Zae.2 (by omega)
  have hfn : fine≠0:=by have:=Nat.two_pow_pos F.fr; omega
  have lf:=Zaa (mkD x.n fine (x.e + blen x.m - F.fr - 1)).m
  have bf : Bd (mkD x.n fine (x.e + blen x.m - F.fr - 1)) 536870912:=ZmJ (by omega) (by omega) (by omega)
  have bn : Bd (mkD x.n n (F.eOf (x.e + blen x.m))) 536870912:=ZmJ (by omega) (by omega) (by omega)
  have ln:=Zaa (mkD x.n n (F.eOf (x.e + blen x.m))).m
  have p1:=Zeh J (z:=z1) (d:=mkD x.n n (F.eOf (x.e + blen x.m))) (by have:=bn.bl; omega) (by have:=bn.lo; have:=bn.hi; omega)
  have p2:=Zeh J (z:=z2) (d:=mkD x.n fine (x.e + blen x.m - F.fr - 1)) (by have:=bf.bl; omega) (by have:=bf.lo; have:=bf.hi; omega)
  rw [ZyV hfn] at p2
  have a1:=Zog J (z:=z1) (d:=mkD x.n n (F.eOf (x.e + blen x.m)))
  rw [ZEq] at a1
  have sd:=ZjF J F (n:=x.n) (w:=F.enc n (F.eOf (x.e + blen x.m)))
  have of:=fun h => Zsy J F (z:=z1) (n:=n) (e:=F.eOf (x.e + blen x.m)) r1 (by omega) h r2
  have es:=fun h => ZEV (F:=F) (n:=n) (e:=F.eOf (x.e + blen x.m)) r1 (by omega) h r2
  have hT0 : topD (mkD x.n n (F.eOf (x.e + blen x.m))) = if n = 0 then 0 else F.eOf (x.e + blen x.m) + blen n:=by
   by_cases hn : n = 0
   ·subst hn; rw [Zca]; rfl
   ·rw [ZyV hn,if_neg hn]
  rw [hT0] at p1
  have hov : (F.wide < if n = 0 then 0 else F.eOf (x.e + blen x.m) + blen n)↔F.wide < blen n + F.eOf (x.e + blen x.m):=by
   by_cases hn : n = 0
   ·subst hn; rw [if_pos rfl,Zal]
    have : F.eOf (x.e + blen x.m) = F.low:=by
     rcases r2 with h | h
     ·exact h
     ·have:=Nat.two_pow_pos F.fr; omega
    omega
   ·rw [if_neg hn]; omega
  have htp : n≠0→(if n = 0 then 0 else F.eOf (x.e + blen x.m) + (blen n : Int)) = F.eOf (x.e + blen x.m) + (blen n : Int):=fun h => if_neg h
  simp only [wordOf]
  generalize (if n = 0 then 0 else F.eOf (x.e + blen x.m) + (blen n : Int)) = tp at *
  generalize F.eOf (x.e + blen x.m) = E at *
  generalize hUU : x.e + (blen x.m : Int) - F.fr - 1 = U at *
  have g1 : 23≤F.fr∧F.fr≤52:=by omega
  have g2 : -1074≤F.low∧F.low≤-149:=by omega
  have g3 : 128≤F.wide∧F.wide≤1024:=by omega
  have g4 : -1074≤E∧E≤268435456:=by omega
  have g5 : -268435456≤U∧U≤268435456:=by omega
  have g6 : U < F.low∧E = F.low∨¬ U < F.low∧E = U:=by omega
  clear hF hE r1 r2 r3 r4 hp bf bn ln lf hl hT0 ho hx hUU
  by_cases hv : F.wide < blen n + E
  ·rw [if_pos hv]
   have hv2:=hov.2 hv
   clear hov of es
   rcases g6 with ⟨hA,rfl⟩ | ⟨hA,rfl⟩
   ·exfalso; omega
   ·clear htp hnf
    simp only [DyA,A3] at *
    repeat' (first|simp (maxSteps:=9^7) only [seval,exC,Zbr,s1,s2,f1,f2,f3,hU,t1,p1,o1]|simp (maxSteps:=9^7) (disch:=first|with_reducible assumption|omega) only [dxB]|(simp only [kdB];split)|(simp only [kvB];split))
  ·rw [if_neg hv]
   have hv2:=fun h => hv (hov.1 h)
   have hlt:=es (by omega)
   rw [Nat.mod_eq_of_lt hlt] at sd
   have of:=of (by omega)
   have hF2 : U + (blen fine : Int) < F.low + (F.fr + 1)↔(blen fine : Int) + U < F.low + F.fr + 1:=by omega
   cases ex
   ·clear hov es
    rcases g6 with ⟨hA,rfl⟩ | ⟨hA,rfl⟩
    ·clear htp hnf
     simp only [DyA,A3] at *
     repeat' (first|simp (maxSteps:=9^7) only [seval,exC,Zbr,s1,s2,f1,f2,f3,hU,t1,t2,p1,p2,a1,of,sd,c1,hF2]|simp (maxSteps:=9^7) (disch:=first|with_reducible assumption|omega) only [dxB]|(simp only [kdB];split)|(simp only [kvB];split))
     all_goals (try simp only [Bool.false_eq_true,if_false,if_true])
     all_goals first | rfl | (rw [if_pos (by omega)]; rfl) | (rw [if_neg (by omega)]; rfl)
    ·have hn1:=hnf rfl
     subst hn1
     have htp1:=htp hfn
     subst htp1
     clear htp hnf
     simp only [DyA,A3] at *
     repeat' (first|simp (maxSteps:=9^7) only [seval,exC,Zbr,s1,s2,f1,f2,f3,hU,t1,p1,a1,of,sd,c1,hF2]|simp (maxSteps:=9^7) (disch:=first|with_reducible assumption|omega) only [dxB]|(simp only [kdB];split)|(simp only [kvB];split))
     all_goals (try simp only [Bool.false_eq_true,if_false,if_true])
     all_goals first | rfl | (rw [if_pos (by omega)]; rfl) | (rw [if_neg (by omega)]; rfl)
   ·clear hov es
    rcases g6 with ⟨hA,rfl⟩ | ⟨hA,rfl⟩
    ·clear htp hnf
     simp only [DyA,A3] at *
     repeat' (first|simp (maxSteps:=9^7) only [seval,exC,Zbr,s1,s2,f1,f2,f3,hU,t1,t2,p1,p2,a1,of,sd,c1,hF2]|simp (maxSteps:=9^7) (disch:=first|with_reducible assumption|omega) only [dxB]|(simp only [kdB];split)|(simp only [kvB];split))
     all_goals (try simp only [Bool.false_eq_true,if_false,if_true])
     all_goals first | rfl | (rw [if_pos (by omega)]; rfl) | (rw [if_neg (by omega)]; rfl)
    ·have hn1:=hnf rfl
     subst hn1
     have htp1:=htp hfn
     subst htp1
     clear htp hnf
     simp only [DyA,A3] at *
     repeat' (first|simp (maxSteps:=9^7) only [seval,exC,Zbr,s1,s2,f1,f2,f3,hU,t1,p1,a1,of,sd,c1,hF2]|simp (maxSteps:=9^7) (disch:=first|with_reducible assumption|omega) only [dxB]|(simp only [kdB];split)|(simp only [kvB];split))
     all_goals (try simp only [Bool.false_eq_true,if_false,if_true])
     all_goals first | rfl | (rw [if_pos (by omega)]; rfl) | (rw [if_neg (by omega)]; rfl)
theorem ZxD {n : Bool} {m : Nat} {e : Int} (h : mayD n (dl m) e = true) : Nz ⟨n,m,e⟩:=by
 obtain ⟨f1,f2,f3,f4,f5⟩:=ZcN h
 refine ⟨fun h0 => ?_,fun h0 => ?_⟩
 ·simp only at h0; subst h0
  obtain ⟨a,b⟩:=f2 (by rw [Zaq]; rfl)
  rw [a,b]
 ·have:=f3 (by rw [ne_eq,Zaz]; exact h0)
  rwa [dg0] at this
def Fm.ng (F : Fm) (w : Nat) : Bool:=decide (F.sg≤w)
def Fm.ex (F : Fm) (w : Nat) : Nat:=w % F.sg / 2 ^ F.fr
def Fm.fc (F : Fm) (w : Nat) : Nat:=w % F.sg % 2 ^ F.fr
def Fm.cls (F : Fm) (w : Nat) : Int:=if F.ex w = 0 then (if F.fc w = 0 then 1 else 2) else if F.ex w < F.most then 3 else if F.fc w = 0 then 4 else 5
def Fm.val (F : Fm) (w : Nat) : Dy:=if F.ex w = 0 then mkD (F.ng w) (F.fc w) F.low else mkD (F.ng w) (2 ^ F.fr + F.fc w) (F.ex w - 1 + F.low)
def Fm.ok (F : Fm) (w : Nat) : Prop:=w < 2 * F.sg
def Fm.fin (F : Fm) (w : Nat) : Prop:=F.ex w < F.most
instance (F : Fm) (w : Nat) : Decidable (F.fin w):=inferInstanceAs (Decidable (_ < _))
instance (F : Fm) (w : Nat) : Decidable (F.ok w):=inferInstanceAs (Decidable (_ < _))
theorem ZjD (J : Al G T g) (F : Fm) : run G T 27 [.int .u8 F.u] = some (.bool true):=by
 rw [ZlO J]; cases F <;> rfl
theorem ZcO (J : Al G T g) (F : Fm) {w : Nat} (hw : w < 18446744073709551616) : run G T 149 [.int .u8 F.u,.int .u64 (w : Int)] = some (.int .i64 (if w < 2 * F.sg then 0 else 6)):=by
 rw [Zac G T J.F.ZcO]
 have h1:=ZjD J F
 by_cases hk : w < 2 * F.sg
 ·rw [if_pos hk]
  cases F <;> (
   simp only [Fm.u,Fm.sg] at *
   repeat' (first|simp (maxSteps:=9^7) only [seval,exC,Zff,h1]|simp (maxSteps:=9^7) (disch:=first|with_reducible assumption|omega) only [dxB]|(simp only [kdB];split)|(simp only [kvB];split)))
 ·rw [if_neg hk]
  cases F <;> (
   simp only [Fm.u,Fm.sg] at *
   repeat' (first|simp (maxSteps:=9^7) only [seval,exC,Zff,h1]|simp (maxSteps:=9^7) (disch:=first|with_reducible assumption|omega) only [dxB]|(simp only [kdB];split)|(simp only [kvB];split)))
  all_goals omega
theorem ZAY {n n' : Bool} {x x' w w' : Int} (h1 : n = n') (h2 : x = x') (h3 : w = w') : some (AV.agg [.bool n,.int .i64 x,.int .u64 w]) = some (.agg [.bool n',.int .i64 x',.int .u64 w']):=by rw [h1,h2,h3]
theorem Zds (J : Al G T g) (F : Fm) {w : Nat} (hw : w < 18446744073709551616) : run G T 156 [.int .u8 F.u,.int .u64 (w : Int)] = some (fldA (F.ng w) (F.ex w) (F.fc w)):=by
 rw [Zac G T J.F.Zds]
 have h1:=Zga J F
 have h2:=ZdF J F
 cases F <;> (
  simp only [Fm.u,Fm.ng,Fm.ex,Fm.fc,Fm.sg,Fm.fr,fldA,Int.cast_ofNat_Int,Nat.reducePow] at *
  repeat' (first|simp (maxSteps:=9^7) only [seval,exC,ZfK,h1,h2]|simp (maxSteps:=9^7) (disch:=first|with_reducible assumption|omega) only [dxB]|(simp only [kdB];split)|(simp only [kvB];split)))
 ·exact ZAY (by congr 1; apply propext; omega) rfl rfl
 ·exact ZAY (by congr 1; apply propext; omega) rfl rfl
theorem ZeC (J : Al G T g) (F : Fm) {w : Nat} (hw : w < 18446744073709551616) : run G T 155 [.int .u8 F.u,.int .u64 (w : Int)] = some (.int .u8 (F.cls w)):=by
 rw [Zac G T J.F.ZeC]
 have h1:=Zds J F hw
 have h2:=ZfZ J F
 unfold Fm.cls
 simp only [fldA] at *
 generalize F.ex w = x at *
 generalize F.fc w = y at *
 repeat' (first|simp (maxSteps:=9^7) only [seval,exC,ZfJ,h1,h2]|simp (maxSteps:=9^7) (disch:=first|with_reducible assumption|omega) only [dxB]|(simp only [kdB];split)|(simp only [kvB];split))
 all_goals (refine Zks ?_; repeat (first | rw [if_pos (by omega)] | rw [if_neg (by omega)]))
theorem Zxb (F : Fm) (w : Nat) : F.fin w↔F.cls w≠4∧F.cls w≠5:=by
 have hm : 0 < F.most:=by cases F <;> decide
 unfold Fm.fin Fm.cls
 generalize F.ex w = x
 generalize F.fc w = y
 repeat' split
 all_goals omega
theorem ZjC (J : Al G T g) (F : Fm) {w : Nat} (hw : w < 18446744073709551616) : run G T 150 [.int .u8 F.u,.int .u64 (w : Int)] = some (.bool (decide (F.fin w))):=by
 rw [Zac G T J.F.ZjC]
 have h1:=ZeC J F hw
 have h2:=Zxb F w
 by_cases h3 : F.fin w
 ·have h4:=h2.1 h3
  rw [decide_eq_true h3]
  clear h2 h3
  generalize F.cls w = c at *
  repeat' (first|simp (maxSteps:=9^7) only [seval,exC,Zdd,h1]|simp (maxSteps:=9^7) (disch:=first|with_reducible assumption|omega) only [dxB]|(simp only [kdB];split)|(simp only [kvB];split))
 ·have h4 : F.cls w = 4∨F.cls w = 5:=by
   by_cases a : F.cls w = 4
   ·exact Or.inl a
   ·by_cases b : F.cls w = 5
    ·exact Or.inr b
    ·exact absurd (h2.2 ⟨a,b⟩) h3
  rw [decide_eq_false h3]
  clear h2 h3
  generalize F.cls w = c at *
  repeat' (first|simp (maxSteps:=9^7) only [seval,exC,Zdd,h1]|simp (maxSteps:=9^7) (disch:=first|with_reducible assumption|omega) only [dxB]|(simp only [kdB];split)|(simp only [kvB];split))
  all_goals (rcases h4 with rfl | rfl <;> simp_all)
theorem ZlJ (J : Al G T g) {n : Nat} (hn : n < 18446744073709551616) : ∃ z',run G T 46 [.int .u64 (n : Int)] = some (D z' (dl n)):=by
 apply exP
 rw [Zac G T J.B.ZlJ]
 have w1 : (n : Int) % 4294967296 = ((n % 4294967296 : Nat) : Int):=by omega
 have w2 : (n : Int) / 4294967296 % 4294967296 = ((n / 4294967296 : Nat) : Int):=by omega
 have hd : Dg [n % 4294967296,n / 4294967296]:=Zen.2 ⟨by omega,Zen.2 ⟨by omega,Dg.nil⟩⟩
 have hv : val [n % 4294967296,n / 4294967296] = n:=by simp only [val]; omega
 obtain ⟨z',hz⟩:=ZdE J (z:=false) hd (by simp)
 rw [hv] at hz
 have hf : fillA (repA 2 [AV.int .u32 0]) [(0,1,.int .u32 ((n % 4294967296 : Nat) : Int)),(1,1,.int .u32 ((n / 4294967296 : Nat) : Int))] = some (cells [n % 4294967296,n / 4294967296]):=rfl
 have hok : (cells [n % 4294967296,n / 4294967296]).all okCell = true:=Ztg _
 have hsn : snapG (Heap.mem ⟨Heap.nil.b ++ [⟨cells [n % 4294967296,n / 4294967296],false⟩],Heap.nil.f⟩) 3 Heap.nil.b.length 0 2 1 = some (D false [n % 4294967296,n / 4294967296]) :=
  Zcq (ZbN FreH.nil [n % 4294967296,n / 4294967296]) (Nat.le_refl 2)
 repeat (first | (simp (maxSteps:=9^7) only [seval,evB,Zkb,w1,w2,hf,hok,hsn,hz]) | (simp (disch:=omega) only [dsB]))
 exact Post.some ⟨z',rfl⟩
theorem ZiM (J : Al G T g) (F : Fm) {w : Nat} (hw : w < 18446744073709551616) (hf : F.fin w) :
  ∃ z,run G T 151 [.int .u8 F.u,.int .u64 (w : Int)] = some (DyA z (F.val w)):=by
 apply exP
 rw [Zac G T J.F.ZiM]
 have h1:=Zds J F hw
 have h2:=ZjE J F
 have h3:=ZdF J F
 have hy : F.fc w < 2 ^ F.fr:=Nat.mod_lt _ (Nat.two_pow_pos _)
 have hp : 2 ^ F.fr≤4503599627370496:=by cases F <;> decide
 have hF:=ZaM F
 have hm : F.most≤2047:=by cases F <;> decide
 unfold Fm.fin at hf
 unfold Fm.val
 generalize F.ex w = x at *
 generalize F.fc w = y at *
 generalize F.ng w = n at *
 have hb1 : blen y≤53:=Zae.2 (by omega)
 have hb2 : blen (2 ^ F.fr + y)≤53:=Zae.2 (by omega)
 have hl1:=Zaa y
 have hl2:=Zaa (2 ^ F.fr + y)
 have hmin : min F.fr 64 = F.fr:=by omega
 have hp0:=Nat.two_pow_pos F.fr
 have hs1 : (1 * (2 : Int) ^ F.fr % 18446744073709551616 + (y : Int)) % 18446744073709551616 = ((2 ^ F.fr + y : Nat) : Int):=by rw [Zbk]; omega
 by_cases h0 : x = 0
 ·obtain ⟨z1,o1⟩:=ZlJ J (n:=y) (by omega)
  obtain ⟨z2,o2⟩:=Zbv J (n:=n) (z:=z1) (a:=y) (e:=F.low) (by omega) (by omega)
  subst h0
  rw [if_pos rfl]
  simp only [fldA,DyA,A3,cast0] at *
  repeat' (first|simp (maxSteps:=9^7) only [seval,exC,ZdR,h1,h2,h3,o1,o2]|simp (maxSteps:=9^7) (disch:=first|with_reducible assumption|omega) only [dxB]|(simp only [kdB];split)|(simp only [kvB];split))
  all_goals exact Post.some ⟨z2,rfl⟩
 ·obtain ⟨z1,o1⟩:=ZlJ J (n:=2 ^ F.fr + y) (by omega)
  obtain ⟨z2,o2⟩:=Zbv J (n:=n) (z:=z1) (a:=2 ^ F.fr + y) (e:=x - 1 + F.low) (by omega) (by omega)
  rw [if_neg h0]
  simp only [fldA,DyA,A3] at *
  repeat' (first|simp (maxSteps:=9^7) only [seval,exC,ZdR,h1,h2,h3,hmin,hs1,o1,o2]|simp (maxSteps:=9^7) (disch:=first|with_reducible assumption|omega) only [dxB]|(simp only [kdB];split)|(simp only [kvB];split))
  all_goals exact Post.some ⟨z2,rfl⟩
def Fm.up (F : Fm) (w : Nat) : Nat × Bool:=if F.cls w = 4∧F.ng w = false then (0,false) else if F.cls w = 1 then (1,true) else if F.ng w then (w - 1,true) else (w + 1,true)
theorem ZEg (F : Fm) {w : Nat} (hf : F.fin w) : Bd (F.val w) 4096:=by
 have hm : F.most≤2047:=by cases F <;> decide
 have hy : F.fc w < 2 ^ F.fr:=Nat.mod_lt _ (Nat.two_pow_pos _)
 have hp : 2 ^ F.fr≤4503599627370496:=by cases F <;> decide
 have hF:=ZaM F
 unfold Fm.fin at hf
 unfold Fm.val
 generalize F.ex w = x at *
 generalize F.fc w = y at *
 have hb1 : blen y≤53:=Zae.2 (by omega)
 have hb2 : blen (2 ^ F.fr + y)≤53:=Zae.2 (by omega)
 split
 ·exact ZmJ (by omega) (by omega) (by omega)
 ·exact ZmJ (by omega) (by omega) (by omega)
section
end
def aboveW (F : Fm) (a b : Nat) : Bool:=if a = F.inf false∨b = F.inf true then true else if a = F.inf true∨b = F.inf false then decide (a = b) else decide (0≤cmpD (F.val a) (F.val b))
theorem ZCr (md : Int) (neg odd : Bool) : upB md neg odd false false = false:=by simp [upB]
theorem Zyk (md : Int) (neg : Bool) (M : Nat) {E u L : Int} (h1 : L≤E) (h2 : L < u) : rnd md neg M E u = rdN md neg (M * 2 ^ (E - L).toNat) false (u - L).toNat:=by
 rw [ZBG _ _ _ _ _ (by omega)]
 unfold rnd
 by_cases h : u≤E
 ·rw [if_pos h,if_pos (by omega),show (E - L).toNat - (u - L).toNat = (E - u).toNat by omega]
 ·rw [if_neg h,if_neg (by omega),show (u - L).toNat - (E - L).toNat = (u - E).toNat by omega]
structure Rd (md : Int) (neg : Bool) (A U W : Nat) (ex b : Bool) : Prop where
 lo : W * U≤A
 hi : A < (W + 1) * U
 exi : ex = true↔A = W * U
 xb : ex = true→b = false
 b3 : md = 3→b = false
 b4 : md = 4→b = (!neg && !ex)
 b5 : md = 5→b = (neg && !ex)
 near : md = 1∨md = 2→(b = true→(2 * W + 1) * U≤2 * A)∧(b = false→2 * A≤(2 * W + 1) * U)
theorem ZGk (md : Int) (neg : Bool) (A : Nat) {k : Nat} (hk : 0 < k) : ∃ b,rdN md neg A false k = (A / 2 ^ k + b.toNat,decide (A % 2 ^ k = 0))∧Rd md neg A (2 ^ k) (A / 2 ^ k) (decide (A % 2 ^ k = 0)) b:=by
 obtain ⟨q1,q2,q3⟩:=ZhK A hk
 have hd:=Nat.div_add_mod A (2 ^ k)
 have hml:=Nat.mod_lt A (Nat.two_pow_pos k)
 refine ⟨upB md neg (decide (A / 2 ^ k % 2 = 1)) (halfN A k) (moreN A false k),?_,?_⟩
 ·simp only [rdN]
  congr 1
  simp only [moreN,Bool.false_or]
  cases hh : halfN A k
  ·rw [hh] at q1; simp only [Bool.false_eq_true,if_false,Nat.zero_add] at q1
   rw [q1]; simp
  ·rw [hh] at q1; simp only [if_true] at q1
   have : A % 2 ^ k≠0:=by omega
   simp [this]
 ·have hmo : moreN A false k = decide (A % 2 ^ (k - 1)≠0):=by simp [moreN]
  rw [hmo]
  generalize halfN A k = hf at *
  generalize A % 2 ^ (k - 1) = S at *
  generalize A % 2 ^ k = R at *
  generalize A / 2 ^ k = W at *
  rw [q3] at *
  generalize 2 ^ (k - 1) = P at *
  have e1 : W * (2 * P) = 2 * P * W:=Nat.mul_comm ..
  have e2 : (W + 1) * (2 * P) = 2 * P * W + 2 * P:=by rw [Nat.add_mul,Nat.one_mul,e1]
  have e3 : (2 * W + 1) * (2 * P) = 2 * (2 * P * W) + 2 * P:=by rw [Nat.add_mul,Nat.one_mul,Nat.mul_assoc,e1]
  refine ⟨by rw [e1]; omega,by rw [e2]; omega,?_,?_,?_,?_,?_,?_⟩
  ·rw [decide_eq_true_eq,e1]; omega
  ·intro h; simp only [decide_eq_true_eq] at h
   have : hf = false∧S = 0:=by cases hf <;> simp at q1 <;> (try constructor) <;> (try rfl) <;> omega
   rw [this.1,this.2]; exact ZCr ..
  ·rintro rfl; simp [upB]
  ·rintro rfl
   cases hf <;> cases neg <;> by_cases hS : S = 0 <;> simp [upB,hS] at q1 ⊢ <;> omega
  ·rintro rfl
   cases hf <;> cases neg <;> by_cases hS : S = 0 <;> simp [upB,hS] at q1 ⊢ <;> omega
  ·rw [e3]
   generalize 2 * P * W = Q at *
   rintro (rfl | rfl)
   ·cases hf <;> by_cases hS : S = 0 <;> simp [upB,hS] at q1 ⊢ <;> (try constructor) <;> (try intro _) <;> omega
   ·cases hf <;> by_cases hS : S = 0 <;> simp [upB,hS] at q1 ⊢ <;> omega
theorem Zpa (md : Int) (neg : Bool) (M : Nat) {E u L : Int} (h1 : L≤E) (h2 : L < u) :
  ∃ b,rnd md neg M E u = (M * 2 ^ (E - L).toNat / 2 ^ (u - L).toNat + b.toNat,decide (M * 2 ^ (E - L).toNat % 2 ^ (u - L).toNat = 0)) ∧
   Rd md neg (M * 2 ^ (E - L).toNat) (2 ^ (u - L).toNat) (M * 2 ^ (E - L).toNat / 2 ^ (u - L).toNat) (decide (M * 2 ^ (E - L).toNat % 2 ^ (u - L).toNat = 0)) b:=by
 rw [Zyk md neg M h1 h2]
 exact ZGk md neg _ (by omega)
theorem ZAd (md : Int) (neg : Bool) {A B : Nat} (h : A≤B) {k : Nat} (hk : 0 < k) : (rdN md neg A false k).1≤(rdN md neg B false k).1:=by
 have hdiv : A / 2 ^ k≤B / 2 ^ k:=Nat.div_le_div_right h
 have hb : ∀ b : Bool,b.toNat≤1:=fun b => by cases b <;> decide
 simp only [rdN]
 by_cases he : A / 2 ^ k = B / 2 ^ k
 ·rw [he]
  obtain ⟨q1,q2,q3⟩:=ZhK A hk
  obtain ⟨r1,r2,_⟩:=ZhK B hk
  have hd:=Nat.div_add_mod A (2 ^ k)
  have hd':=Nat.div_add_mod B (2 ^ k)
  rw [he] at hd
  have hR : A % 2 ^ k≤B % 2 ^ k:=by omega
  have m1 : moreN A false k = decide (A % 2 ^ (k - 1)≠0):=by simp [moreN]
  have m2 : moreN B false k = decide (B % 2 ^ (k - 1)≠0):=by simp [moreN]
  rw [m1,m2]
  generalize halfN A k = f1 at *
  generalize halfN B k = f2 at *
  generalize A % 2 ^ (k - 1) = S1 at *
  generalize B % 2 ^ (k - 1) = S2 at *
  generalize A % 2 ^ k = R1 at *
  generalize B % 2 ^ k = R2 at *
  generalize decide (B / 2 ^ k % 2 = 1) = od
  generalize 2 ^ (k - 1) = P at *
  have hle : (upB md neg od f1 (decide (S1≠0))) = true→(upB md neg od f2 (decide (S2≠0))) = true:=by
   unfold upB
   clear hb m1 m2 hd hd' he hdiv h q3
   cases f1 <;> cases f2 <;> simp only [if_true,if_false,Bool.false_eq_true,Nat.zero_add] at q1 r1 <;> by_cases a : S1 = 0 <;> by_cases b : S2 = 0 <;>
    first
    | (exfalso; omega)
    | (cases neg <;> cases od <;> simp [a,b] <;> (try omega))
  generalize upB md neg od f1 (decide (S1≠0)) = b1 at *
  generalize upB md neg od f2 (decide (S2≠0)) = b2 at *
  cases b1 <;> cases b2 <;> simp at *
 ·have:=hb (upB md neg (decide (A / 2 ^ k % 2 = 1)) (halfN A k) (moreN A false k))
  omega
def Fm.i0 (F : Fm) : Nat:=F.most * 2 ^ F.fr
theorem ZnL (F : Fm) (n : Bool) : F.inf n = F.i0 + F.sgn n:=rfl
theorem ZcM (F : Fm) : F.i0 + 2 ^ F.fr = F.sg∧0 < F.i0∧0 < F.sg∧F.sg≤9223372036854775808∧F.i0 < F.sg:=by cases F <;> decide
def magN (F : Fm) (s : Nat) : Nat:=if s / 2 ^ F.fr = 0 then s % 2 ^ F.fr else (2 ^ F.fr + s % 2 ^ F.fr) * 2 ^ (s / 2 ^ F.fr - 1)
theorem Zrc (F : Fm) (s : Nat) : magN F s < magN F (s + 1):=by
 unfold magN
 have hp:=Nat.two_pow_pos F.fr
 generalize 2 ^ F.fr = P at *
 have hd:=Nat.div_add_mod s P
 have hm:=Nat.mod_lt s hp
 have hd':=Nat.div_add_mod (s + 1) P
 have hm':=Nat.mod_lt (s + 1) hp
 by_cases h : s % P + 1 < P
 ·have e1 : (s + 1) / P = s / P:=by
   rw [Nat.div_eq_of_lt_le] <;> (rw [Nat.mul_comm]; try rw [Nat.mul_add]) <;> omega
  have e2 : (s + 1) % P = s % P + 1:=by rw [e1] at hd'; omega
  rw [e1,e2]
  by_cases h0 : s / P = 0
  ·rw [if_pos h0,if_pos h0]; omega
  ·rw [if_neg h0,if_neg h0]
   exact Nat.mul_lt_mul_of_pos_right (by omega) (Nat.two_pow_pos _)
 ·have e1 : (s + 1) / P = s / P + 1:=by
   rw [Nat.div_eq_of_lt_le] <;> (rw [Nat.mul_comm]; rw [Nat.mul_add]; try rw [Nat.mul_add]) <;> omega
  have e2 : (s + 1) % P = 0:=by rw [e1,Nat.mul_add] at hd'; generalize P * (s / P) = Q at *; omega
  have e3 : ¬ (s / P + 1 = 0):=by generalize s / P = Q; omega
  rw [e1,e2]
  by_cases h0 : s / P = 0
  ·rw [if_pos h0,h0]; simp; omega
  ·rw [if_neg h0,if_neg e3]
   obtain ⟨k,hk⟩:=Nat.exists_eq_succ_of_ne_zero h0
   rw [hk]
   simp only [Nat.add_sub_cancel,Nat.add_zero]
   rw [Nat.pow_succ,← Nat.mul_assoc,Nat.mul_comm (P * 2 ^ k) 2,← Nat.mul_assoc]
   exact Nat.mul_lt_mul_of_pos_right (by omega) (Nat.two_pow_pos _)
theorem ZDm (F : Fm) {a b : Nat} (h : a < b) : magN F a < magN F b:=by
 obtain ⟨k,rfl⟩ : ∃ k,b = a + 1 + k:=⟨b - a - 1,by omega⟩
 clear h
 induction k with
 | zero => exact Zrc F a
 | succ k ih => exact Nat.lt_trans ih (Zrc F _)
theorem Zgt (F : Fm) {a b : Nat} (h : a≤b) : magN F a≤magN F b:=by
 rcases Nat.lt_or_ge a b with h1 | h1
 ·exact Nat.le_of_lt (ZDm F h1)
 ·rw [Nat.le_antisymm h h1]; exact Nat.le_refl _
theorem ZxC (F : Fm) : magN F 0 = 0:=by simp [magN]
theorem Zlv (F : Fm) {n : Nat} {u : Int} (h1 : n≤2 ^ (F.fr + 1)) (h2 : F.low≤u) (h3 : u = F.low∨2 ^ F.fr≤n) : magN F (F.enc n u) = n * 2 ^ (u - F.low).toNat:=by
 unfold magN Fm.enc
 have hp:=Nat.two_pow_pos F.fr
 rw [Nat.pow_succ] at h1
 generalize 2 ^ F.fr = P at *
 generalize hk : (u - F.low).toNat = k at *
 have h3' : k = 0∨P≤n:=by omega
 clear h3 h2 hk
 have q : ∀ j r,r < P→(j * P + r) / P = j∧(j * P + r) % P = r:=fun j r hr => by
  constructor
  ·rw [Nat.mul_comm,Nat.mul_add_div hp,Nat.div_eq_of_lt hr]; rfl
  ·rw [Nat.mul_comm,Nat.mul_add_mod,Nat.mod_eq_of_lt hr]
 rcases Nat.lt_or_ge n P with h | h
 ·obtain rfl : k = 0:=by omega
  obtain ⟨e1,e2⟩:=q 0 n h
  rw [e1,e2]; simp
 ·rcases Nat.lt_or_ge n (2 * P) with h4 | h4
  ·obtain ⟨e1,e2⟩:=q (k + 1) (n - P) (by omega)
   have e3 : (k + 1) * P + (n - P) = k * P + n:=by rw [Nat.add_mul]; omega
   rw [e3] at e1 e2
   rw [e1,e2,if_neg (by omega),Nat.add_sub_cancel,show P + (n - P) = n by omega]
  ·obtain rfl : n = 2 * P:=by omega
   obtain ⟨e1,e2⟩:=q (k + 2) 0 hp
   have e3 : (k + 2) * P + 0 = k * P + 2 * P:=by rw [Nat.add_mul]; rfl
   rw [e3] at e1 e2
   rw [e1,e2,if_neg (by omega),show k + 2 - 1 = k + 1 by omega,Nat.pow_succ,Nat.add_zero,Nat.mul_comm (2 ^ k) 2,← Nat.mul_assoc,Nat.mul_comm P 2]
theorem Zdt {F : Fm} {s : Nat} (n : Bool) (h : s < F.sg) : (s + F.sgn n) % F.sg = s∧F.ng (s + F.sgn n) = n:=by
 unfold Fm.sgn Fm.ng
 cases n
 ·simp only [Bool.false_eq_true,if_false,Nat.add_zero]
  exact ⟨Nat.mod_eq_of_lt h,decide_eq_false (by omega)⟩
 ·simp only [if_true]
  exact ⟨by rw [Nat.add_mod_right]; exact Nat.mod_eq_of_lt h,decide_eq_true (by omega)⟩
theorem Zbw {F : Fm} {s : Nat} (n : Bool) (h : s < F.i0) : F.fin (s + F.sgn n):=by
 have hi:=ZcM F
 unfold Fm.fin Fm.ex
 rw [(Zdt n (by omega : s < F.sg)).1]
 exact Nat.div_lt_of_lt_mul (by rw [Nat.mul_comm]; exact h)
theorem ZrZ (F : Fm) (n : Bool) : F.cls (F.inf n) = 4:=by cases F <;> cases n <;> decide
theorem ZqW {F : Fm} {s : Nat} (n : Bool) (h : s < F.i0) : iv (F.val (s + F.sgn n)) F.low = (if n then -1 else 1) * (magN F s : Int)∧LoE (F.val (s + F.sgn n)) F.low∧Nz (F.val (s + F.sgn n)):=by
 have hi:=ZcM F
 obtain ⟨e1,e2⟩:=Zdt n (by omega : s < F.sg)
 unfold Fm.val Fm.ex Fm.fc magN
 rw [e1,e2]
 split
 ·next h0 =>
  refine ⟨?_,ZcU (Int.le_refl _),ZkY ..⟩
  rw [Zhr (Int.le_refl _),Int.sub_self]; simp
 ·next h0 =>
  have hx : F.low≤(s / 2 ^ F.fr : Nat) - 1 + F.low:=by generalize s / 2 ^ F.fr = Q at *; omega
  refine ⟨?_,ZcU hx,ZkY ..⟩
  rw [Zhr hx,show ((s / 2 ^ F.fr : Nat) - 1 + F.low - F.low : Int).toNat = s / 2 ^ F.fr - 1 by generalize s / 2 ^ F.fr = Q at *; omega]
theorem ZzB (F : Fm) (n : Nat) (u : Int) : F.enc (n + 1) u = F.enc n u + 1:=rfl
theorem ZkF (F : Fm) {n : Nat} {u : Int} (h1 : n≤2 ^ (F.fr + 1)) (h2 : F.low≤u) (h3 : u = F.low∨2 ^ F.fr≤n) : (F.wide < blen n + u)↔F.i0≤F.enc n u:=by
 constructor
 ·intro h
  have hF:=ZaM F
  have h3' : 2 ^ F.fr≤n:=by
   rcases h3 with h3 | h3
   ·exfalso
    have : blen n≤F.fr + 2:=Zae.2 (Nat.lt_of_le_of_lt h1 (Nat.pow_lt_pow_right (by decide) (by omega)))
    omega
   ·exact h3
  have hb:=ZaA.2 h3'
  have hm : (F.most : Int) = F.wide - F.low - F.fr + 1:=by cases F <;> decide
  unfold Fm.i0 Fm.enc
  rcases Nat.lt_or_ge n (2 ^ (F.fr + 1)) with h4 | h4
  ·have:=Zae.2 h4
   obtain ⟨k,hk⟩ : ∃ k,(u - F.low).toNat = k:=⟨_,rfl⟩
   have h5 : F.most≤k + 1:=by omega
   have h6:=Nat.mul_le_mul_right (2 ^ F.fr) h5
   rw [Nat.add_mul,Nat.one_mul] at h6
   rw [hk]; omega
  ·have h7 : n = 2 ^ F.fr * 2:=by rw [Nat.pow_succ] at h1 h4; omega
   have h8 : blen n = F.fr + 2:=by
    have:=Zap (n:=1) (by decide) (F.fr + 1)
    rw [Nat.one_mul,Nat.pow_succ,← h7,show blen 1 = 1 from rfl] at this; omega
   obtain ⟨k,hk⟩ : ∃ k,(u - F.low).toNat = k:=⟨_,rfl⟩
   have h5 : F.most≤k + 2:=by omega
   have h6:=Nat.mul_le_mul_right (2 ^ F.fr) h5
   rw [Nat.add_mul] at h6
   rw [hk]; omega
 ·intro h
  by_cases hw : F.wide < blen n + u
  ·exact hw
  ·exfalso
   by_cases h0 : n = 0
   ·subst h0
    have hu : u = F.low:=by
     rcases h3 with h3 | h3
     ·exact h3
     ·have:=Nat.two_pow_pos F.fr; omega
    rw [hu] at h
    have:=(ZcM F).2.1
    simp [Fm.enc] at h; omega
   ·have:=Ztm (Zkk (F:=F) (neg:=false) h0 h1 h2 (by omega))
    rw [ZpR h0 h1 h2 h3] at this
    unfold Fm.i0 at h; omega
end Go.Cv
namespace Go.Cv
def ovs (F : Fm) (md : Int) (neg : Bool) : Nat:=if md = 3∨(md = 4∧neg = true)∨(md = 5∧neg = false) then F.i0 - 1 else F.i0
theorem ZBC (F : Fm) (md : Int) (neg : Bool) : ovr F md neg = ovs F md neg + F.sgn neg:=by
 have:=ZcM F
 unfold ovr ovs
 rw [ZnL]
 split <;> omega
structure Shp (F : Fm) (d : Dy) (L : Int) (A U W e0 : Nat) (u : Int) (ex : Bool) : Prop where
 hL : L < F.low∧L < d.e∧L < u
 hA : A = d.m * 2 ^ (d.e - L).toNat
 hU : U = 2 ^ (u - L).toNat
 lou : F.low≤u
 he0 : e0 = F.enc W u
 wb : W≤2 ^ (F.fr + 1)∧(ex = false→W + 1≤2 ^ (F.fr + 1))
 wc : u = F.low∨2 ^ F.fr≤W
 all : ∀ md : Int,1≤md→md≤5→∃ b fl,rndW F md d = ((if F.i0≤e0 + b.toNat then ovs F md d.n else e0 + b.toNat) + F.sgn d.n,if F.i0≤e0 + b.toNat then 20 else if ex then 0 else fl) ∧
  (fl = 16∨fl = 24)∧Rd md d.n A U W ex b
theorem Zyx (F : Fm) {d : Dy} (h0 : d.m≠0) {L : Int} (l1 : L < F.low) (l2 : L < d.e) : ∃ A U W e0 u ex,Shp F d L A U W e0 u ex∧u = F.eOf (d.e + blen d.m):=by
 have hu : F.low≤F.eOf (d.e + blen d.m):=by unfold Fm.eOf; omega
 refine ⟨_,_,d.m * 2 ^ (d.e - L).toNat / 2 ^ (F.eOf (d.e + blen d.m) - L).toNat,_,F.eOf (d.e + blen d.m),decide (d.m * 2 ^ (d.e - L).toNat % 2 ^ (F.eOf (d.e + blen d.m) - L).toNat = 0),⟨⟨l1,l2,by omega⟩,rfl,rfl,hu,rfl,?_,?_,?_⟩,rfl⟩
 ·obtain ⟨b,e1,R⟩:=Zpa 3 d.n d.m (E:=d.e) (u:=F.eOf (d.e + blen d.m)) (L:=L) (by omega) (by omega)
  have q:=(ZjL F (md:=3) h0).1
  rw [e1,R.b3 rfl] at q
  refine ⟨by simpa using q,fun hx => ?_⟩
  cases hn : d.n
  ·obtain ⟨b,e1,R⟩:=Zpa 4 d.n d.m (E:=d.e) (u:=F.eOf (d.e + blen d.m)) (L:=L) (by omega) (by omega)
   have q:=(ZjL F (md:=4) h0).1
   rw [e1,R.b4 rfl,hx,hn] at q
   simpa using q
  ·obtain ⟨b,e1,R⟩:=Zpa 5 d.n d.m (E:=d.e) (u:=F.eOf (d.e + blen d.m)) (L:=L) (by omega) (by omega)
   have q:=(ZjL F (md:=5) h0).1
   rw [e1,R.b5 rfl,hx,hn] at q
   simpa using q
 ·obtain ⟨b,e1,R⟩:=Zpa 3 d.n d.m (E:=d.e) (u:=F.eOf (d.e + blen d.m)) (L:=L) (by omega) (by omega)
  have q:=(ZjL F (md:=3) h0).2.1
  rw [e1,R.b3 rfl] at q
  simpa using q
 ·intro md m1 m2
  obtain ⟨b,e1,R⟩:=Zpa md d.n d.m (E:=d.e) (u:=F.eOf (d.e + blen d.m)) (L:=L) (by omega) (by omega)
  obtain ⟨q1,q2,_,_⟩:=ZjL F (md:=md) h0
  have hb:=ZkF F q1 hu q2
  have hs : rndW F md d = wordOf F md d.n (rnd md d.n d.m d.e (F.eOf (d.e + blen d.m))).1 (rnd md d.n d.m d.e (F.eOf (d.e + blen d.m))).2 (F.eOf (d.e + blen d.m)) (d.e + blen d.m) (rnd md d.n d.m d.e (d.e + blen d.m - F.fr - 1)).1:=by
   simp only [rndW,if_neg h0]
  have he : F.enc (rnd md d.n d.m d.e (F.eOf (d.e + blen d.m))).1 (F.eOf (d.e + blen d.m)) = F.enc (d.m * 2 ^ (d.e - L).toNat / 2 ^ (F.eOf (d.e + blen d.m) - L).toNat) (F.eOf (d.e + blen d.m)) + b.toNat:=by
   rw [e1]; unfold Fm.enc; simp only; omega
  rw [he] at hb
  refine ⟨b,if blen (rnd md d.n d.m d.e (d.e + blen d.m - F.fr - 1)).1 + (d.e + blen d.m - F.fr - 1) < F.low + F.fr + 1 then 24 else 16,?_,by split <;> simp,R⟩
  rw [hs]
  unfold wordOf
  rw [he]
  by_cases hv : F.wide < blen (rnd md d.n d.m d.e (F.eOf (d.e + blen d.m))).1 + F.eOf (d.e + blen d.m)
  ·rw [if_pos hv,if_pos (hb.1 hv),if_pos (hb.1 hv),ZBC]
  ·have hv':=fun h => hv (hb.2 h)
   rw [if_neg hv,if_neg hv',if_neg hv']
   congr 1
   rw [e1]
theorem Zlt {F : Fm} {s : Nat} (n : Bool) (h : s < F.i0) {L : Int} (hL : L≤F.low) : iv (F.val (s + F.sgn n)) L = (if n then -1 else 1) * ((magN F s * 2 ^ (F.low - L).toNat : Nat) : Int)∧LoE (F.val (s + F.sgn n)) L:=by
 obtain ⟨h1,h2,_⟩:=ZqW n h
 refine ⟨?_,h2.mono hL⟩
 rw [ZiG h2 hL,h1,Int.mul_assoc,← Int.natCast_mul]
theorem ZqV {d : Dy} {L : Int} : iv d L = (if d.n then -1 else 1) * ((d.m * 2 ^ (d.e - L).toNat : Nat) : Int):=rfl
section
variable {F : Fm} {d : Dy} {L : Int} {A U W e0 : Nat} {u : Int} {ex : Bool}
theorem Shp.worth (S : Shp F d L A U W e0 u ex) : magN F e0 * 2 ^ (F.low - L).toNat = W * U:=by
 rw [S.he0,Zlv F S.wb.1 S.lou S.wc,S.hU,Nat.mul_assoc,← Nat.pow_add]
 have:=S.hL; have:=S.lou
 rw [show (u - F.low).toNat + (F.low - L).toNat = (u - L).toNat by omega]
theorem Shp.worth1 (S : Shp F d L A U W e0 u ex) (hx : ex = false) : magN F (e0 + 1) * 2 ^ (F.low - L).toNat = (W + 1) * U:=by
 rw [S.he0,← ZzB,Zlv F (S.wb.2 hx) S.lou (S.wc.imp id fun h => by omega),S.hU,Nat.mul_assoc,← Nat.pow_add]
 have:=S.hL; have:=S.lou
 rw [show (u - F.low).toNat + (F.low - L).toNat = (u - L).toNat by omega]
theorem Zli {s : Nat} (n : Bool) (h : s < F.i0) (hL : L≤F.low) (hd : LoE d L) : cmpD (F.val (s + F.sgn n)) d = sgI ((if n then -1 else 1) * ((magN F s * 2 ^ (F.low - L).toNat : Nat) : Int) - iv d L):=by
 obtain ⟨h1,h2⟩:=Zlt n h hL
 rw [Znq h2 hd,h1]
end
end Go.Cv
namespace Go.Cv
theorem Zth {F : Fm} {s : Nat} (n : Bool) (h : s≤F.i0) : (F.cls (s + F.sgn n) = 1↔s = 0)∧(F.cls (s + F.sgn n) = 4↔s = F.i0)∧F.cls (s + F.sgn n)≠5:=by
 have hi:=ZcM F
 obtain ⟨e1,e2⟩:=Zdt n (by omega : s < F.sg)
 unfold Fm.cls Fm.ex Fm.fc
 rw [e1]
 unfold Fm.i0 at *
 have hp:=Nat.two_pow_pos F.fr
 have hm : 1 < F.most:=by cases F <;> decide
 generalize F.most = K at *
 generalize 2 ^ F.fr = P at *
 have hd:=Nat.div_add_mod s P
 have hml:=Nat.mod_lt s hp
 have h3 : s / P≤K:=by
  apply Nat.div_le_of_le_mul; rw [Nat.mul_comm]; exact h
 have h4 : s / P = K→s % P = 0:=by
  intro hk; rw [hk,Nat.mul_comm] at hd; omega
 have h5 : s / P = 0→s = s % P:=by intro hk; rw [hk,Nat.mul_zero] at hd; omega
 have h6 : s / P = K↔s = K * P:=by
  constructor
  ·intro hk; have:=h4 hk; rw [hk,this,Nat.mul_comm] at hd; omega
  ·intro hk; rw [hk,Nat.mul_div_cancel _ hp]
 have h7 : K * P≠0:=by have:=Nat.mul_pos (by omega : 0 < K) hp; omega
 have h8 : s = 0→s / P = 0:=by rintro rfl; exact Nat.zero_div _
 generalize s / P = x at *
 generalize s % P = y at *
 generalize K * P = KP at *
 clear hd
 refine ⟨?_,?_,?_⟩ <;> (repeat' split) <;> omega
structure Betw (F : Fm) (md : Int) (d : Dy) : Prop where
 ws : ∀ m : Int,1≤m→m≤5→∃ s : Nat,s≤F.i0∧(rndW F m d).1 = s + F.sgn d.n
 under : (F.cls (rndW F 5 d).1 = 4∧(rndW F 5 d).1 = F.inf true)∨(F.fin (rndW F 5 d).1∧cmpD (F.val (rndW F 5 d).1) d≤0)
 over : (F.cls (rndW F 4 d).1 = 4∧(rndW F 4 d).1 = F.inf false)∨(F.fin (rndW F 4 d).1∧0≤cmpD (F.val (rndW F 4 d).1) d)
 same : (rndW F 5 d).1 = (rndW F 4 d).1→(rndW F 5 d).2 = 0∧(rndW F 4 d).2 = 0∧(rndW F md d).2 = 0∧(rndW F md d).1 = (rndW F 5 d).1∧(rndW F 3 d).1 = (rndW F 5 d).1
 step : (rndW F 5 d).1≠(rndW F 4 d).1→(if (rndW F 5 d).1 % F.sg = 0 then (1,true) else F.up (rndW F 5 d).1) = ((rndW F 4 d).1,true)∧¬ ((rndW F 4 d).1 = F.sg∧(rndW F 4 d).1 = 0)
 flag : ∀ m : Int,1≤m→m≤5→(rndW F 5 d).1≠(rndW F 4 d).1→(rndW F m d).2 = 16∨(rndW F m d).2 = 20∨(rndW F m d).2 = 24
 one : (rndW F 5 d).1≠(rndW F 4 d).1→((rndW F md d).1 = (rndW F 5 d).1∨(rndW F md d).1 = (rndW F 4 d).1)∧((rndW F 3 d).1 = (rndW F 5 d).1↔d.n = false)∧((rndW F 3 d).1 = (rndW F 4 d).1↔d.n = true)
theorem ZGN {F : Fm} {x : Nat} (h : x < F.i0) : (if x % F.sg = 0 then (1,true) else F.up x) = (x + 1,true):=by
 have hi:=ZcM F
 obtain ⟨c1,c2,c3⟩:=Zth (F:=F) false (Nat.le_of_lt h)
 obtain ⟨e1,e2⟩:=Zdt (F:=F) false (by omega : x < F.sg)
 simp only [Fm.sgn,Bool.false_eq_true,if_false,Nat.add_zero] at c1 c2 c3 e1 e2
 rw [e1]
 by_cases h0 : x = 0
 ·rw [if_pos h0,h0]
 ·rw [if_neg h0]
  unfold Fm.up
  rw [if_neg (fun q => by have:=c2.1 q.1; omega),if_neg (fun q => h0 (c1.1 q)),e2]
  rfl
theorem ZGM {F : Fm} {x : Nat} (h : x < F.i0) : (if (x + 1 + F.sg) % F.sg = 0 then (1,true) else F.up (x + 1 + F.sg)) = (x + F.sg,true):=by
 have hi:=ZcM F
 obtain ⟨c1,c2,c3⟩:=Zth (F:=F) (s:=x + 1) true (by omega)
 obtain ⟨e1,e2⟩:=Zdt (F:=F) (s:=x + 1) true (by omega)
 simp only [Fm.sgn,if_true] at c1 c2 c3 e1 e2
 rw [e1,if_neg (by omega)]
 unfold Fm.up
 rw [if_neg (fun q => by rw [e2] at q; exact absurd q.2 (by decide)),if_neg (fun q => by have:=c1.1 q; omega),e2,if_pos rfl]
 congr 1; omega
section
variable {F : Fm} {md : Int} {d : Dy} {L : Int} {A : Nat}
theorem ZsX (hL : L≤F.low) (hle : LoE d L) (hd : iv d L = A) (hn : d.n = false) {x : Nat} (hx : x < F.i0)
  (hws : ∀ m : Int,1≤m→m≤5→∃ s : Nat,s≤F.i0∧(rndW F m d).1 = s + F.sgn d.n)
  (E5 : (rndW F 5 d).1 = x) (E4 : (rndW F 4 d).1 = x + 1) (E3 : (rndW F 3 d).1 = x) (E : (rndW F md d).1 = x∨(rndW F md d).1 = x + 1)
  (hf : ∀ m : Int,1≤m→m≤5→(rndW F m d).2 = 16∨(rndW F m d).2 = 20∨(rndW F m d).2 = 24)
  (h1 : magN F x * 2 ^ (F.low - L).toNat≤A) (h2 : x + 1 < F.i0→A≤magN F (x + 1) * 2 ^ (F.low - L).toNat) : Betw F md d:=by
 have hi:=ZcM F
 have s0 : F.sgn false = 0:=rfl
 refine ⟨hws,?_,?_,fun h => ?_,fun _ => ?_,fun m a b _ => hf m a b,fun _ => ?_⟩
 ·right
  have c:=Zli (F:=F) (s:=x) false hx hL hle
  have fz:=Zbw (F:=F) (s:=x) false hx
  rw [s0,Nat.add_zero] at c fz
  rw [E5]
  refine ⟨fz,?_⟩
  rw [c,hd]
  have : ¬ 0 < sgI ((if false = true then -1 else 1) * ((magN F x * 2 ^ (F.low - L).toNat : Nat) : Int) - (A : Int)):=by
   rw [Zqo]; simp only [Bool.false_eq_true,if_false]; omega
  omega
 ·rw [E4]
  by_cases h3 : x + 1 < F.i0
  ·right
   have c:=Zli (F:=F) (s:=x + 1) false h3 hL hle
   have fz:=Zbw (F:=F) (s:=x + 1) false h3
   rw [s0,Nat.add_zero] at c fz
   refine ⟨fz,?_⟩
   rw [c,hd]
   have:=h2 h3
   have : ¬ sgI ((if false = true then -1 else 1) * ((magN F (x + 1) * 2 ^ (F.low - L).toNat : Nat) : Int) - (A : Int)) < 0:=by
    rw [Zow]; simp only [Bool.false_eq_true,if_false]; omega
   omega
  ·left
   have e : x + 1 = F.inf false:=by rw [ZnL,s0]; omega
   rw [e]; exact ⟨ZrZ F false,rfl⟩
 ·rw [E5,E4] at h; omega
 ·rw [E5,E4]; exact ⟨ZGN hx,by omega⟩
 ·rw [E5,E4,E3,hn]
  refine ⟨E,⟨fun _ => rfl,fun _ => rfl⟩,⟨fun h => by omega,fun h => by cases h⟩⟩
theorem ZsW (hL : L≤F.low) (hle : LoE d L) (hd : iv d L = -(A : Int)) (hn : d.n = true) {x : Nat} (hx : x < F.i0)
  (hws : ∀ m : Int,1≤m→m≤5→∃ s : Nat,s≤F.i0∧(rndW F m d).1 = s + F.sgn d.n)
  (E5 : (rndW F 5 d).1 = x + 1 + F.sg) (E4 : (rndW F 4 d).1 = x + F.sg) (E3 : (rndW F 3 d).1 = x + F.sg) (E : (rndW F md d).1 = x + F.sg∨(rndW F md d).1 = x + 1 + F.sg)
  (hf : ∀ m : Int,1≤m→m≤5→(rndW F m d).2 = 16∨(rndW F m d).2 = 20∨(rndW F m d).2 = 24)
  (h1 : magN F x * 2 ^ (F.low - L).toNat≤A) (h2 : x + 1 < F.i0→A≤magN F (x + 1) * 2 ^ (F.low - L).toNat) : Betw F md d:=by
 have hi:=ZcM F
 have s0 : F.sgn true = F.sg:=rfl
 refine ⟨hws,?_,?_,fun h => ?_,fun _ => ?_,fun m a b _ => hf m a b,fun _ => ?_⟩
 ·rw [E5]
  by_cases h3 : x + 1 < F.i0
  ·right
   have c:=Zli (F:=F) (s:=x + 1) true h3 hL hle
   have fz:=Zbw (F:=F) (s:=x + 1) true h3
   rw [s0] at c fz
   refine ⟨fz,?_⟩
   rw [c,hd]
   have:=h2 h3
   have : ¬ 0 < sgI ((if true = true then -1 else 1) * ((magN F (x + 1) * 2 ^ (F.low - L).toNat : Nat) : Int) - -(A : Int)):=by
    rw [Zqo]; simp only [if_true]; omega
   omega
  ·left
   have e : x + 1 + F.sg = F.inf true:=by rw [ZnL,s0]; omega
   rw [e]; exact ⟨ZrZ F true,rfl⟩
 ·right
  have c:=Zli (F:=F) (s:=x) true hx hL hle
  have fz:=Zbw (F:=F) (s:=x) true hx
  rw [s0] at c fz
  rw [E4]
  refine ⟨fz,?_⟩
  rw [c,hd]
  have : ¬ sgI ((if true = true then -1 else 1) * ((magN F x * 2 ^ (F.low - L).toNat : Nat) : Int) - -(A : Int)) < 0:=by
   rw [Zow]; simp only [if_true]; omega
  omega
 ·rw [E5,E4] at h; omega
 ·rw [E5,E4]; exact ⟨ZGM hx,by omega⟩
 ·rw [E5,E4,E3,hn]
  refine ⟨E.symm,⟨fun h => by omega,fun h => by cases h⟩,⟨fun _ => rfl,fun _ => rfl⟩⟩
theorem ZCF (hL : L≤F.low) (hle : LoE d L) (hd : iv d L = (if d.n then -1 else 1) * (A : Int)) {x : Nat} (hx : x < F.i0)
  (hws : ∀ m : Int,1≤m→m≤5→∃ s : Nat,s≤F.i0∧(rndW F m d).1 = s + F.sgn d.n)
  (E5 : rndW F 5 d = (x + F.sgn d.n,0)) (E4 : rndW F 4 d = (x + F.sgn d.n,0)) (E3 : rndW F 3 d = (x + F.sgn d.n,0)) (E : rndW F md d = (x + F.sgn d.n,0))
  (h1 : magN F x * 2 ^ (F.low - L).toNat = A) : Betw F md d:=by
 have c:=Zli (F:=F) (s:=x) d.n hx hL hle
 have fz:=Zbw (F:=F) (s:=x) d.n hx
 rw [h1,hd,Int.sub_self] at c
 refine ⟨hws,?_,?_,fun h => ?_,fun h => ?_,fun m a b h => ?_,fun h => ?_⟩
 ·rw [E5]; right; exact ⟨fz,by rw [c]; decide⟩
 ·rw [E4]; right; exact ⟨fz,by rw [c]; decide⟩
 ·rw [E5,E4,E3,E]; exact ⟨rfl,rfl,rfl,rfl,rfl⟩
 ·rw [E5,E4] at h; exact absurd rfl h
 ·rw [E5,E4] at h; exact absurd rfl h
 ·rw [E5,E4] at h; exact absurd rfl h
end
theorem between (F : Fm) {md : Int} (m1 : 1≤md) (m2 : md≤5) {d : Dy} (h0 : d.m≠0) : Betw F md d:=by
 have hi:=ZcM F
 obtain ⟨L,l1,l2⟩ : ∃ L : Int,L < F.low∧L < d.e:=⟨min F.low d.e - 1,by omega,by omega⟩
 obtain ⟨A,U,W,e0,u,ex,S,_⟩:=Zyx F h0 l1 l2
 obtain ⟨b5,f5,r5,g5,R5⟩:=S.all 5 (by decide) (by decide)
 obtain ⟨b4,f4,r4,g4,R4⟩:=S.all 4 (by decide) (by decide)
 obtain ⟨b3,f3,r3,g3,R3⟩:=S.all 3 (by decide) (by decide)
 obtain ⟨b,f,r,g,R⟩:=S.all md m1 m2
 have x5:=R5.b5 rfl
 have x4:=R4.b4 rfl
 have x3:=R3.b3 rfl
 have hw:=S.worth
 have hw1:=S.worth1
 have hlo:=R.lo
 have hhi:=R.hi
 have hex:=R.exi
 have hd : iv d L = (if d.n then -1 else 1) * (A : Int):=by rw [ZqV,S.hA]
 have hle : LoE d L:=Or.inr (by omega)
 have hbig : F.i0≤e0→magN F (F.i0 - 1) * 2 ^ (F.low - L).toNat≤A:=fun h => Nat.le_trans (Nat.mul_le_mul_right _ (Zgt F (by omega : F.i0 - 1≤e0))) (by rw [hw]; exact hlo)
 have hovs : ∀ m n,ovs F m n = F.i0 - 1∨ovs F m n = F.i0:=fun m n => by unfold ovs; split <;> omega
 have hws : ∀ m : Int,1≤m→m≤5→∃ s : Nat,s≤F.i0∧(rndW F m d).1 = s + F.sgn d.n:=fun m a1 a2 => by
  obtain ⟨b,f,r,_,_⟩:=S.all m a1 a2
  refine ⟨_,?_,by rw [r]⟩
  split
  ·have:=hovs m d.n; omega
  ·omega
 have hf : (F.i0≤e0∨ex = false)→∀ m : Int,1≤m→m≤5→(rndW F m d).2 = 16∨(rndW F m d).2 = 20∨(rndW F m d).2 = 24:=fun h m a1 a2 => by
  obtain ⟨b,f,r,g,_⟩:=S.all m a1 a2
  rw [r]; simp only
  by_cases q : F.i0≤e0 + b.toNat
  ·rw [if_pos q]; exact Or.inr (Or.inl rfl)
  ·rw [if_neg q]
   have : ex = false:=h.resolve_left (by omega)
   rw [this]; simp only [Bool.false_eq_true,if_false]; omega
 by_cases hb : F.i0≤e0
 ·have t : ∀ b : Bool,F.i0≤e0 + b.toNat:=fun b => by omega
  rw [if_pos (t b5)] at r5
  rw [if_pos (t b4)] at r4
  rw [if_pos (t b3)] at r3
  rw [if_pos (t b)] at r
  cases hn : d.n
  ·rw [hn] at r5 r4 r3 r hd
   have o5 : ovs F 5 false = F.i0 - 1:=by simp [ovs]
   have o4 : ovs F 4 false = F.i0:=by simp [ovs]
   have o3 : ovs F 3 false = F.i0 - 1:=by simp [ovs]
   refine ZsX (x:=F.i0 - 1) (by omega) hle (by rw [hd]; simp) hn (by omega) hws (by rw [r5,o5]; rfl) (by rw [r4,o4]; simp only [Fm.sgn,Bool.false_eq_true,if_false]; omega) (by rw [r3,o3]; rfl) ?_ (hf (Or.inl hb)) (hbig hb) (fun h => by omega)
   rw [r]; simp only [Fm.sgn,Bool.false_eq_true,if_false]
   have:=hovs md false; omega
  ·rw [hn] at r5 r4 r3 r hd
   have o5 : ovs F 5 true = F.i0:=by simp [ovs]
   have o4 : ovs F 4 true = F.i0 - 1:=by simp [ovs]
   have o3 : ovs F 3 true = F.i0 - 1:=by simp [ovs]
   refine ZsW (x:=F.i0 - 1) (by omega) hle (by rw [hd]; simp) hn (by omega) hws (by rw [r5,o5]; simp only [Fm.sgn,if_true]; omega) (by rw [r4,o4]; rfl) (by rw [r3,o3]; rfl) ?_ (hf (Or.inl hb)) (hbig hb) (fun h => by omega)
   rw [r]; simp only [Fm.sgn,if_true]
   have:=hovs md true; omega
 ·cases hx : ex
  ·subst hx
   have hw1:=hw1 rfl
   have hup : A≤magN F (e0 + 1) * 2 ^ (F.low - L).toNat:=by rw [hw1]; omega
   have hdn : magN F e0 * 2 ^ (F.low - L).toNat≤A:=by rw [hw]; exact hlo
   cases hn : d.n
   ·rw [hn] at r5 r4 r3 r hd x5 x4
    subst x5 x4 x3
    have o4 : ovs F 4 false = F.i0:=by simp [ovs]
    refine ZsX (x:=e0) (by omega) hle (by rw [hd]; simp) hn (by omega) hws (by rw [r5]; simp [hb,Fm.sgn]) ?_ (by rw [r3]; simp [hb,Fm.sgn]) ?_ (hf (Or.inr rfl)) hdn (fun _ => hup)
    ·rw [r4]; simp only [o4,Bool.not_false,Bool.and_self,Bool.toNat_true,Fm.sgn,Bool.false_eq_true,if_false]; split <;> omega
    ·rw [r]
     cases b
     ·left; simp [hb,Fm.sgn]
     ·right
      have m3 : md≠3:=fun h => by have:=R.b3 h; cases this
      have m5 : md≠5:=fun h => by have:=R.b5 h; rw [hn] at this; cases this
      have o : ovs F md false = F.i0:=by simp [ovs,m3,m5]
      simp only [o,Bool.toNat_true,Fm.sgn,Bool.false_eq_true,if_false]; split <;> omega
   ·rw [hn] at r5 r4 r3 r hd x5 x4
    subst x5 x4 x3
    have o5 : ovs F 5 true = F.i0:=by simp [ovs]
    refine ZsW (x:=e0) (by omega) hle (by rw [hd]; simp) hn (by omega) hws ?_ (by rw [r4]; simp [hb,Fm.sgn]) (by rw [r3]; simp [hb,Fm.sgn]) ?_ (hf (Or.inr rfl)) hdn (fun _ => hup)
    ·rw [r5]; simp only [o5,Bool.not_false,Bool.and_self,Bool.toNat_true,Fm.sgn,if_true]; split <;> omega
    ·rw [r]
     cases b
     ·left; simp [hb,Fm.sgn]
     ·right
      have m3 : md≠3:=fun h => by have:=R.b3 h; cases this
      have m4 : md≠4:=fun h => by have:=R.b4 h; rw [hn] at this; cases this
      have o : ovs F md true = F.i0:=by simp [ovs,m3,m4]
      simp only [o,Bool.toNat_true,Fm.sgn,if_true]; split <;> omega
  ·subst hx
   have y5:=R5.xb rfl
   have y4:=R4.xb rfl
   have y:=R.xb rfl
   subst y5 y4 y x3
   refine ZCF (x:=e0) (by omega) hle hd (by omega) hws (by rw [r5]; simp [hb]) (by rw [r4]; simp [hb]) (by rw [r3]; simp [hb]) (by rw [r]; simp [hb]) ?_
   rw [hw]; exact (hex.1 rfl).symm
end Go.Cv
namespace Go.Cv
variable {G : Nat→Option (List AV)} {T : Tbl} {g : Nat}
theorem ZEc {F : Fm} {s : Nat} (n : Bool) (h : s≤F.i0) : s + F.sgn n < 2 * F.sg:=by
 have:=ZcM F
 unfold Fm.sgn; split <;> omega
def rndS (F : Fm) (m : Int) (d : Dy) : Nat:=if d.m = 0 then 0 else
 if F.wide < blen (rnd m d.n d.m d.e (F.eOf (d.e + blen d.m))).1 + F.eOf (d.e + blen d.m) then ovs F m d.n else F.enc (rnd m d.n d.m d.e (F.eOf (d.e + blen d.m))).1 (F.eOf (d.e + blen d.m))
theorem Zyj (F : Fm) (m : Int) {d : Dy} (h0 : d.m≠0) : (rndW F m d).1 = rndS F m d + F.sgn d.n:=by
 unfold rndW rndS wordOf
 rw [if_neg h0,if_neg h0]
 simp only
 split
 ·rw [ZBC]
 ·rfl
theorem ZDD (F : Fm) {m : Int} (m1 : 1≤m) (m2 : m≤5) {d : Dy} (h0 : d.m≠0) : rndS F m d≤F.i0:=by
 obtain ⟨s,h1,h2⟩:=(between F (md:=1) (by decide) (by decide) h0).ws m m1 m2
 rw [Zyj F m h0] at h2; omega
theorem ZFW {d : Dy} (h0 : d.m≠0) : negD d = ⟨!d.n,d.m,d.e⟩:=by unfold negD; rw [if_neg h0]
theorem Zov (F : Fm) (m : Int) {s : Nat} (n : Bool) (h : s < F.i0) (h0 : s≠0) : rndW F m (F.val (s + F.sgn n)) = (s + F.sgn n,0)∧(F.val (s + F.sgn n)).m≠0:=by
 have hi:=ZcM F
 have hF:=ZaM F
 obtain ⟨e1,e2⟩:=Zdt n (by omega : s < F.sg)
 have hp:=Nat.two_pow_pos F.fr
 have hd:=Nat.div_add_mod s (2 ^ F.fr)
 have hm:=Nat.mod_lt s hp
 obtain ⟨k,u,hk0,hk1,hu,hku,hv,hs⟩ : ∃ (k : Nat) (u : Int),k≠0∧k < 2 ^ (F.fr + 1)∧F.low≤u∧(u = F.low∨2 ^ F.fr≤k)∧F.val (s + F.sgn n) = mkD n k u∧F.enc k u = s:=by
  unfold Fm.val Fm.ex Fm.fc
  rw [e1,e2]
  by_cases hx : s / 2 ^ F.fr = 0
  ·rw [if_pos hx]
   rw [hx,Nat.mul_zero,Nat.zero_add] at hd
   refine ⟨s % 2 ^ F.fr,F.low,by omega,by rw [Nat.pow_succ]; omega,Int.le_refl _,Or.inl rfl,rfl,?_⟩
   unfold Fm.enc; rw [Int.sub_self]; simpa using hd
  ·rw [if_neg hx]
   have hx1 : 1≤s / 2 ^ F.fr:=Nat.pos_of_ne_zero hx
   refine ⟨2 ^ F.fr + s % 2 ^ F.fr,(s / 2 ^ F.fr : Nat) - 1 + F.low,by omega,by rw [Nat.pow_succ]; omega,by generalize s / 2 ^ F.fr = Q at *; omega,Or.inr (by omega),rfl,?_⟩
   unfold Fm.enc
   rw [show ((s / 2 ^ F.fr : Nat) - 1 + F.low - F.low : Int).toNat = s / 2 ^ F.fr - 1 by generalize s / 2 ^ F.fr = Q at *; omega,Nat.sub_mul,Nat.one_mul,Nat.mul_comm]
   have : 2 ^ F.fr * 1≤2 ^ F.fr * (s / 2 ^ F.fr):=Nat.mul_le_mul_left _ hx1
   rw [Nat.mul_one] at this; omega
 rw [hv]
 have hne:=ZnU (n:=n) hk0 u
 refine ⟨?_,hne⟩
 have hb:=Zlx (n:=n) hk0 u
 have hbk:=Zae.2 hk1
 have hE : F.eOf ((mkD n k u).e + blen (mkD n k u).m) = u:=by
  unfold Fm.eOf
  rw [hb]
  rcases hku with h1 | h1
  ·omega
  ·have:=ZaA.2 h1; omega
 have hr : rnd m (mkD n k u).n (mkD n k u).m (mkD n k u).e u = (k,true):=by
  have hle : u≤(mkD n k u).e:=by rw [Zar hk0]; simp only; omega
  unfold rnd
  rw [if_pos hle,ZnV hk0 (Int.le_refl u),Int.sub_self]; simp
 unfold rndW
 rw [if_neg hne]
 simp only
 rw [hE,hr]
 unfold wordOf
 have hbig:=ZkF F (n:=k) (u:=u) (by omega) hu hku
 rw [hs] at hbig
 rw [if_neg (fun q => by have:=hbig.1 q; omega),hs,Zsp hk0]
 simp
theorem Zku (F : Fm) (n : Bool) : F.val (0 + F.sgn n) = ⟨false,0,0⟩:=by
 have hi:=ZcM F
 obtain ⟨e1,e2⟩:=Zdt (F:=F) (s:=0) n (by omega)
 unfold Fm.val Fm.ex Fm.fc
 rw [e1]; simp [Zca]
theorem Zpj {F : Fm} {w : Nat} (h : w < 2 * F.sg) : ∃ s n,w = s + F.sgn n∧s < F.sg∧(F.fin w→s < F.i0)∧(w = F.sg↔s = 0∧n = true):=by
 have hi:=ZcM F
 refine ⟨w % F.sg,F.ng w,?_,Nat.mod_lt _ hi.2.2.1,fun hf => ?_,?_⟩
 ·unfold Fm.ng Fm.sgn
  by_cases h1 : F.sg≤w
  ·rw [decide_eq_true h1,if_pos rfl,Nat.mod_eq_sub_mod h1,Nat.mod_eq_of_lt (by omega)]; omega
  ·rw [decide_eq_false h1,if_neg (by decide),Nat.mod_eq_of_lt (by omega)]; rfl
 ·unfold Fm.fin Fm.ex at hf
  unfold Fm.i0
  have:=Nat.div_add_mod (w % F.sg) (2 ^ F.fr)
  have h2:=Nat.mod_lt (w % F.sg) (Nat.two_pow_pos F.fr)
  have h3 : (w % F.sg / 2 ^ F.fr + 1) * 2 ^ F.fr≤F.most * 2 ^ F.fr:=Nat.mul_le_mul_right _ hf
  rw [Nat.add_mul,Nat.one_mul,Nat.mul_comm] at h3
  omega
 ·unfold Fm.ng
  constructor
  ·intro e; rw [e,Nat.mod_self]; exact ⟨rfl,decide_eq_true (Nat.le_refl _)⟩
  ·rintro ⟨h1,h2⟩
   simp only [decide_eq_true_eq] at h2
   rw [Nat.mod_eq_sub_mod h2,Nat.mod_eq_of_lt (by omega)] at h1; omega
theorem ZzA (F : Fm) (u : Int) {a b : Nat} (h : a≤b) : F.enc a u≤F.enc b u:=by unfold Fm.enc; omega
theorem Zqj (F : Fm) {m : Int} {d : Dy} (h0 : d.m≠0) :
  rndS F m d = if F.i0≤F.enc (rnd m d.n d.m d.e (F.eOf (d.e + blen d.m))).1 (F.eOf (d.e + blen d.m)) then ovs F m d.n else F.enc (rnd m d.n d.m d.e (F.eOf (d.e + blen d.m))).1 (F.eOf (d.e + blen d.m)):=by
 obtain ⟨q1,q2,_,_⟩:=ZjL F (md:=m) h0
 have hu : F.low≤F.eOf (d.e + blen d.m):=by unfold Fm.eOf; omega
 have hb:=ZkF F q1 hu q2
 unfold rndS
 rw [if_neg h0]
 by_cases h : F.wide < blen (rnd m d.n d.m d.e (F.eOf (d.e + blen d.m))).1 + F.eOf (d.e + blen d.m)
 ·rw [if_pos h,if_pos (hb.1 h)]
 ·rw [if_neg h,if_neg (fun q => h (hb.2 q))]
theorem Zrt (F : Fm) (m : Int) {a b : Dy} (ha : a.m≠0) (hb : b.m≠0) (hn : a.n = b.n) {L : Int} (la : L < a.e) (lb : L < b.e) (ll : L < F.low)
  (h : b.m * 2 ^ (b.e - L).toNat≤a.m * 2 ^ (a.e - L).toNat) : rndS F m b≤rndS F m a:=by
 have hi:=ZcM F
 have ta:=Zap ha (a.e - L).toNat
 have tb:=Zap hb (b.e - L).toNat
 have ht:=ZaF h
 have hu : F.eOf (b.e + blen b.m)≤F.eOf (a.e + blen a.m):=by unfold Fm.eOf; omega
 have ha0 : F.low≤F.eOf (a.e + blen a.m):=by unfold Fm.eOf; omega
 have hb0 : F.low≤F.eOf (b.e + blen b.m):=by unfold Fm.eOf; omega
 obtain ⟨p1,p2,_,_⟩:=ZjL F (md:=m) ha
 obtain ⟨q1,q2,_,_⟩:=ZjL F (md:=m) hb
 have he : F.enc (rnd m b.n b.m b.e (F.eOf (b.e + blen b.m))).1 (F.eOf (b.e + blen b.m))≤F.enc (rnd m a.n a.m a.e (F.eOf (a.e + blen a.m))).1 (F.eOf (a.e + blen a.m)):=by
  by_cases hq : F.eOf (b.e + blen b.m) = F.eOf (a.e + blen a.m)
  ·rw [hq]
   apply ZzA
   rw [Zyk m a.n a.m (L:=L) (by omega) (by omega),Zyk m b.n b.m (L:=L) (by omega) (by omega),hn]
   exact ZAd m b.n h (by omega)
  ·rcases p2 with p2 | p2
   ·exfalso; omega
   ·unfold Fm.enc
    rw [Nat.pow_succ] at q1
    obtain ⟨j,hj⟩ : ∃ j,(F.eOf (b.e + blen b.m) - F.low).toNat = j:=⟨_,rfl⟩
    obtain ⟨k,hk⟩ : ∃ k,(F.eOf (a.e + blen a.m) - F.low).toNat = k:=⟨_,rfl⟩
    rw [hj,hk]
    have h5 : (j + 1) * 2 ^ F.fr≤k * 2 ^ F.fr:=Nat.mul_le_mul_right _ (by omega)
    rw [Nat.add_mul,Nat.one_mul] at h5
    omega
 rw [Zqj F ha,Zqj F hb,hn]
 rw [hn] at he
 have ho : ovs F m b.n = F.i0 - 1∨ovs F m b.n = F.i0:=by unfold ovs; split <;> omega
 split <;> split <;> omega
def keyW (s : Nat) (n : Bool) : Int:=if n then -(s : Int) else s
theorem ZvV (F : Fm) {s t : Nat} {n k : Bool} (hs : s≤F.i0) (ht : t≤F.i0) (h : keyW t k≤keyW s n) : aboveW F (s + F.sgn n) (t + F.sgn k) = true:=by
 have hi:=ZcM F
 unfold aboveW
 have e1 : ∀ (s : Nat) (n k : Bool),s≤F.i0→(s + F.sgn n = F.i0 + F.sgn k↔s = F.i0∧n = k):=fun s n k hs => by
  unfold Fm.sgn
  cases n <;> cases k <;> simp <;> omega
 have d1 : (s + F.sgn n = F.inf false∨t + F.sgn k = F.inf true)↔((s = F.i0∧n = false)∨(t = F.i0∧k = true)):=by rw [ZnL,ZnL,e1 s n false hs,e1 t k true ht]
 have d2 : (s + F.sgn n = F.inf true∨t + F.sgn k = F.inf false)↔((s = F.i0∧n = true)∨(t = F.i0∧k = false)):=by rw [ZnL,ZnL,e1 s n true hs,e1 t k false ht]
 by_cases c1 : (s = F.i0∧n = false)∨(t = F.i0∧k = true)
 ·rw [if_pos (d1.2 c1)]
 ·rw [if_neg (fun q => c1 (d1.1 q))]
  by_cases c2 : (s = F.i0∧n = true)∨(t = F.i0∧k = false)
  ·exfalso
   unfold keyW at h
   cases n <;> cases k <;> simp at h c1 c2 <;> omega
  ·rw [if_neg (fun q => c2 (d2.1 q))]
   have s1 : s < F.i0:=by
    rcases Nat.lt_or_ge s F.i0 with q | q
    ·exact q
    ·exfalso; cases n
     ·exact c1 (Or.inl ⟨by omega,rfl⟩)
     ·exact c2 (Or.inl ⟨by omega,rfl⟩)
   have t1 : t < F.i0:=by
    rcases Nat.lt_or_ge t F.i0 with q | q
    ·exact q
    ·exfalso; cases k
     ·exact c2 (Or.inr ⟨by omega,rfl⟩)
     ·exact c1 (Or.inr ⟨by omega,rfl⟩)
   obtain ⟨v1,v2,_⟩:=ZqW n s1
   obtain ⟨w1,w2,_⟩:=ZqW k t1
   rw [Znq v2 w2,v1,w1]
   apply decide_eq_true
   have hnot : ¬ ((if n = true then -1 else 1) * (magN F s : Int) - (if k = true then -1 else 1) * (magN F t : Int)) < 0:=by
    unfold keyW at h
    have z:=ZxC F
    cases n <;> cases k <;> simp only [Bool.false_eq_true,if_false,if_true] at h ⊢
    ·have:=Zgt F (by omega : t≤s); omega
    ·omega
    ·have h1 : s = 0:=by omega
     have h2 : t = 0:=by omega
     subst h1 h2; omega
    ·have:=Zgt F (by omega : s≤t); omega
   have:=Zow (x:=(if n = true then -1 else 1) * (magN F s : Int) - (if k = true then -1 else 1) * (magN F t : Int))
   omega
theorem Zqk (F : Fm) {m : Int} (m1 : 1≤m) (m2 : m≤5) (d : Dy) : ∃ s n,(rndW F m d).1 = s + F.sgn n∧s≤F.i0∧s = rndS F m d∧(d.m = 0→s = 0∧n = false)∧(d.m≠0→n = d.n):=by
 by_cases h0 : d.m = 0
 ·refine ⟨0,false,?_,Nat.zero_le _,?_,fun _ => ⟨rfl,rfl⟩,fun h => absurd h0 h⟩
  ·unfold rndW; rw [if_pos h0]; rfl
  ·unfold rndS; rw [if_pos h0]
 ·exact ⟨rndS F m d,d.n,Zyj F m h0,ZDD F m1 m2 h0,rfl,fun h => absurd h h0,fun _ => rfl⟩
theorem ZFK (F : Fm) (a b : Dy) : ∃ L : Int,L < F.low∧L < a.e∧L < b.e:=⟨min F.low (min a.e b.e) - 1,by omega,by omega,by omega⟩
theorem ZvP {d : Dy} {L : Int} (h : L < d.e) : LoE d L:=Or.inr (by omega)
theorem order (F : Fm) {m : Int} (m1 : 1≤m) (m2 : m≤5) {a b : Dy} (h : 0≤cmpD a b) : aboveW F (rndW F m a).1 (rndW F m b).1 = true:=by
 obtain ⟨L,l1,l2,l3⟩:=ZFK F a b
 rw [Znq (ZvP l2) (ZvP l3)] at h
 have hle : iv b L≤iv a L:=by
  have:=Zow (x:=iv a L - iv b L); omega
 obtain ⟨s,n,e1,hs,es,sz,sn⟩:=Zqk F m1 m2 a
 obtain ⟨t,k,e2,ht,et,tz,tn⟩:=Zqk F m1 m2 b
 rw [e1,e2]
 refine ZvV F hs ht ?_
 have pa : a.m≠0→0 < a.m * 2 ^ (a.e - L).toNat:=fun h => Nat.mul_pos (Nat.pos_of_ne_zero h) (Nat.two_pow_pos _)
 have pb : b.m≠0→0 < b.m * 2 ^ (b.e - L).toNat:=fun h => Nat.mul_pos (Nat.pos_of_ne_zero h) (Nat.two_pow_pos _)
 rw [ZqV,ZqV] at hle
 unfold keyW
 by_cases ha : a.m = 0
 ·obtain ⟨rfl,rfl⟩:=sz ha
  rw [ha,Nat.zero_mul] at hle
  by_cases hb : b.m = 0
  ·obtain ⟨rfl,rfl⟩:=tz hb
   decide
  ·have:=pb hb
   have hk:=tn hb
   cases hbn : b.n
   ·rw [hbn] at hle; simp only [Bool.false_eq_true,if_false] at hle; split at hle <;> omega
   ·rw [hk,hbn]; simp only [Bool.false_eq_true,if_false,if_true]; omega
 ·have hna:=sn ha
  have:=pa ha
  by_cases hb : b.m = 0
  ·obtain ⟨rfl,rfl⟩:=tz hb
   rw [hb,Nat.zero_mul] at hle
   cases han : a.n
   ·rw [hna,han]; simp only [Bool.false_eq_true,if_false]; omega
   ·rw [han] at hle; simp only [if_true] at hle; split at hle <;> omega
  ·have hnb:=tn hb
   have:=pb hb
   cases han : a.n <;> cases hbn : b.n
   ·rw [han,hbn] at hle
    have:=Zrt F m ha hb (by rw [han,hbn]) l2 l3 l1 (by simp only [Bool.false_eq_true,if_false] at hle; omega)
    rw [hna,hnb,han,hbn]; simp only [Bool.false_eq_true,if_false]; omega
   ·rw [hna,hnb,han,hbn]; simp only [Bool.false_eq_true,if_false,if_true]; omega
   ·rw [han,hbn] at hle; simp only [Bool.false_eq_true,if_false,if_true] at hle; omega
   ·rw [han,hbn] at hle
    have:=Zrt F m hb ha (by rw [han,hbn]) l3 l2 l1 (by simp only [if_true] at hle; omega)
    rw [hna,hnb,han,hbn]; simp only [if_true]; omega
def distN (a b : Dy) (L : Int) : Int:=if iv a L - iv b L < 0 then -(iv a L - iv b L) else iv a L - iv b L
theorem ZnM {a b : Dy} {L : Int} (la : LoE a L) (lb : LoE b L) : iv (absD (subD a b)) L = distN a b L∧LoE (absD (subD a b)) L:=by
 obtain ⟨h1,h2⟩:=ZnN la lb
 refine ⟨?_,h2⟩
 rw [Zxk]
 unfold distN
 rw [← h1]
 unfold iv
 generalize (subD a b).m * 2 ^ ((subD a b).e - L).toNat = X
 cases (subD a b).n <;> simp <;> omega
theorem ZCS (a b : Dy) (L : Int) : 0≤distN a b L:=by unfold distN; split <;> omega
theorem nearest (F : Fm) {m : Int} (hm : m = 1∨m = 2) {d : Dy} {o : Nat} (ho : o < 2 * F.sg) (hf : F.fin o) (hv : (rndW F m d).2≠20) :
  F.fin (rndW F m d).1∧(rndW F m d).1 < 2 * F.sg∧cmpD (absD (subD (F.val (rndW F m d).1) d)) (absD (subD (F.val o) d))≤0:=by
 have hi:=ZcM F
 obtain ⟨so,no,ew,o1,o2,_⟩:=Zpj ho
 have o2:=o2 hf
 obtain ⟨L,l1,l2⟩ : ∃ L : Int,L < F.low∧L < d.e:=⟨min F.low d.e - 1,by omega,by omega⟩
 have ld : LoE d L:=ZvP l2
 obtain ⟨v1,v2⟩:=Zlt (F:=F) (s:=so) no o2 (L:=L) (by omega)
 rw [← ew] at v1 v2
 obtain ⟨x1,x2⟩:=ZnM v2 ld
 have fin : ∀ {s : Nat} {n : Bool},(rndW F m d).1 = s + F.sgn n→s < F.i0→(distN (F.val (s + F.sgn n)) d L≤distN (F.val o) d L) →
   F.fin (rndW F m d).1∧(rndW F m d).1 < 2 * F.sg∧cmpD (absD (subD (F.val (rndW F m d).1) d)) (absD (subD (F.val o) d))≤0:=fun {s n} e h1 h2 => by
  rw [e]
  obtain ⟨w1,w2⟩:=Zlt (F:=F) n h1 (L:=L) (by omega)
  obtain ⟨y1,y2⟩:=ZnM w2 ld
  refine ⟨Zbw n h1,ZEc n (by omega),?_⟩
  rw [Znq y2 x2,y1,x1]
  have:=Zqo (x:=distN (F.val (s + F.sgn n)) d L - distN (F.val o) d L)
  omega
 by_cases h0 : d.m = 0
 ·have e : (rndW F m d).1 = 0 + F.sgn false:=by unfold rndW; rw [if_pos h0]; rfl
  refine fin e (by omega) ?_
  have : distN (F.val (0 + F.sgn false)) d L = 0:=by
   unfold distN
   rw [Zku,ZaY rfl,ZaY h0]; rfl
  rw [this]; exact ZCS ..
 ·obtain ⟨A,U,W,e0,u,ex,S,_⟩:=Zyx F h0 l1 l2
  obtain ⟨b,fl,r,g,R⟩:=S.all m (by omega) (by omega)
  have hov : ¬ F.i0≤e0 + b.toNat:=by
   intro q; rw [r,if_pos q,if_pos q] at hv; exact hv rfl
  rw [if_neg hov,if_neg hov] at r
  have e : (rndW F m d).1 = e0 + b.toNat + F.sgn d.n:=by rw [r]
  refine fin e (by omega) ?_
  obtain ⟨w1,_⟩:=Zlt (F:=F) (s:=e0 + b.toNat) d.n (by omega) (L:=L) (by omega)
  have hA : iv d L = (if d.n then -1 else 1) * (A : Int):=by rw [ZqV,S.hA]
  unfold distN
  rw [w1,hA,v1]
  have hw:=S.worth
  have hw1:=S.worth1
  have hlo:=R.lo
  have hhi:=R.hi
  have hex:=R.exi
  have hxb:=R.xb
  obtain ⟨n1,n2⟩:=R.near hm
  have m1 : so≤e0→magN F so * 2 ^ (F.low - L).toNat≤W * U:=fun h => by rw [← hw]; exact Nat.mul_le_mul_right _ (Zgt F h)
  have m2 : ex = false→e0 + 1≤so→(W + 1) * U≤magN F so * 2 ^ (F.low - L).toNat:=fun hx h => by rw [← hw1 hx]; exact Nat.mul_le_mul_right _ (Zgt F h)
  generalize magN F so * 2 ^ (F.low - L).toNat = O at *
  have q1 : (W + 1) * U = W * U + U:=by rw [Nat.add_mul,Nat.one_mul]
  have q2 : (2 * W + 1) * U = 2 * (W * U) + U:=by rw [Nat.add_mul,Nat.one_mul,Nat.mul_assoc]
  rw [q1] at hhi m2
  rw [q2] at n1 n2
  clear v1 v2 x1 x2 fin r e w1 hA ld
  cases b
  ·simp only [Bool.toNat_false,Nat.add_zero]
   rw [hw]
   have n2:=n2 rfl
   generalize W * U = P at *
   cases ex
   ·have m2:=m2 rfl
    have hO : O≤P∨P + U≤O:=by
     rcases Nat.lt_or_ge e0 so with h | h
     ·exact Or.inr (m2 h)
     ·exact Or.inl (m1 h)
    clear m1 m2 hw hw1 hex hxb hov n1
    cases d.n <;> cases no <;> simp only [Bool.false_eq_true,if_false,if_true] <;> repeat' split
    all_goals omega
   ·have hE:=hex.1 rfl
    clear m1 m2 hw hw1 hex hxb hov n1
    cases d.n <;> cases no <;> simp only [Bool.false_eq_true,if_false,if_true] <;> repeat' split
    all_goals omega
  ·have hx : ex = false:=by cases ex; rfl; exact absurd (hxb rfl) (by decide)
   subst hx
   simp only [Bool.toNat_true]
   rw [hw1 rfl,q1]
   have n1:=n1 rfl
   generalize W * U = P at *
   have m2:=m2 rfl
   have hO : O≤P∨P + U≤O:=by
    rcases Nat.lt_or_ge e0 so with h | h
    ·exact Or.inr (m2 h)
    ·exact Or.inl (m1 h)
   clear m1 m2 hw hw1 hex hxb hov n2
   cases d.n <;> cases no <;> simp only [Bool.false_eq_true,if_false,if_true] <;> repeat' split
   all_goals omega
theorem Ztl {l : List Nat} {i d : Nat} (h : i < l.length) : (l.set i d).drop i = d :: l.drop (i + 1):=by
 rw [ZdY (by rw [List.length_set]; exact h),ZAQ h,List.drop_set_of_lt (Nat.lt_succ_self i)]
theorem ZvB {L l : List Nat} {d r j : Nat} (hj : j < L.length) (hl : l.length = L.length) (h : val (L.drop (j + 1)) = val (l.drop (j + 1)) * d + r) :
  val (L.drop j) = val ((l.set j ((r * 4294967296 + dg L j) / d)).drop j) * d + (r * 4294967296 + dg L j) % d:=by
 rw [ZdY hj,Ztl (by omega),ZaJ,ZaJ,h]
 have:=Nat.div_add_mod (r * 4294967296 + dg L j) d
 generalize (r * 4294967296 + dg L j) / d = q at *
 generalize (r * 4294967296 + dg L j) % d = m at *
 rw [Nat.mul_add,Nat.add_mul,Nat.mul_assoc,Nat.mul_comm q d]
 generalize val (l.drop (j + 1)) * d = x at *
 omega
theorem Zux {d r x : Nat} (hr : r < d) (hx : x < 4294967296) : (r * 4294967296 + x) / d < 4294967296:=by
 rw [Nat.div_lt_iff_lt_mul (by omega)]
 calc r * 4294967296 + x < (r + 1) * 4294967296:=by omega
  _≤d * 4294967296:=Nat.mul_le_mul_right _ hr
  _ = 4294967296 * d:=Nat.mul_comm ..
theorem Zqp {r x : Nat} (hr : r < 4294967296) (hx : x < 4294967296) : orI .u64 ((r : Int) * 4294967296 % 18446744073709551616) (x : Int) = ((r * 4294967296 + x : Nat) : Int):=by
 have e : (r : Int) * 4294967296 % 18446744073709551616 = ((r * 4294967296 : Nat) : Int):=by omega
 rw [e,or64 (by omega) (by omega),Nat.or_comm,show (4294967296 : Nat) = 2 ^ 32 from rfl,ZlD hx,Nat.add_comm]
theorem Znu {V A d r : Nat} (hr : r < d) (h : V = A * d + r) : A = V / d∧r = V % d:=by
 subst h
 constructor
 ·rw [Nat.mul_comm,Nat.mul_add_div (by omega),Nat.div_eq_of_lt hr]; rfl
 ·rw [Nat.mul_comm,Nat.mul_add_mod,Nat.mod_eq_of_lt hr]
theorem Zmh (J : Al G T g) {r x d : Nat} (hr : r < d) (hx : x < 4294967296) (hd : d < 4294967296) :
  run G T 118 [.int .u32 (r : Int),.int .u32 (x : Int),.int .u32 (d : Int)] = some (.tup [.int .u32 (((r * 4294967296 + x) / d : Nat) : Int),.int .u32 (((r * 4294967296 + x) % d : Nat) : Int)]):=by
 rw [Zac G T J.A.Zmh]
 have w0 : (r : Int) % 18446744073709551616 = r:=by omega
 have w1 : (x : Int) % 18446744073709551616 = x:=by omega
 have w2:=Zqp (r:=r) (x:=x) (by omega) hx
 have w3 : (d : Int) % 18446744073709551616 = d:=by omega
 have hq:=Zux hr hx
 have hm:=Nat.mod_lt (r * 4294967296 + x) (y:=d) (by omega)
 have h2 : ¬ (d : Int) = 0:=by omega
 have h3 : ¬ (d : Int)≤r:=by omega
 have w4 : ((r * 4294967296 + x : Nat) : Int).tdiv (d : Int) = (((r * 4294967296 + x) / d : Nat) : Int):=rfl
 have w5 : ((r * 4294967296 + x : Nat) : Int).tmod (d : Int) = (((r * 4294967296 + x) % d : Nat) : Int):=rfl
 generalize (r * 4294967296 + x) / d = Q at *
 generalize (r * 4294967296 + x) % d = R at *
 have w6 : (Q : Int) % 18446744073709551616 = Q:=by omega
 have w7 : (Q : Int) % 4294967296 = Q:=by omega
 have w9 : (R : Int) % 4294967296 = R:=by omega
 repeat (first | (simp (maxSteps:=9^7) only [seval,evB,Zgx,w0,w1,w2,w3,w4,w5,w6,w7,w9,h2,h3]) | (simp (disch:=omega) only [dsB]))
theorem Zpf (J : Al G T g) {L : List Nat} {z : Bool} {d b : Nat} (hL : Dg L) (h0 : 0 < d) (hd : d < 4294967296) (hb : L.length < 17179869184) : ∀ (j r : Nat) (h : Heap) (l : List Nat),
  j≤L.length→Holds h b l→Dg l→l.length = L.length→r < d→val (L.drop j) = val (l.drop j) * d + r →
  Post (evL G T ZeG [(0,D z L),(1,.int .u32 (d : Int)),(6,.own b 0 L.length 1),(7,.int .u32 (r : Int)),(8,.int .i64 ((j : Int) - 1))] h) fun x =>
   ∃ e h' l' r',x = (.exit 0,(0,D z L) :: (1,.int .u32 (d : Int)) :: (6,.own b 0 L.length 1) :: (7,.int .u32 ((r' : Nat) : Int)) :: e,h')∧Holds h' b l'∧Dg l'∧l'.length = L.length∧r' < d∧val L = val l' * d + r'
 | 0,r,h,l,hj,H,hd1,hl,hr,he => by
  rw [Zaf G T (c:=ZeG) rfl]
  have h1 : ¬ (0 : Int)≤((0 : Nat) : Int) - 1:=by omega
  repeat (first | (simp (maxSteps:=9^7) only [seval,evB,Zhl,h1]) | (simp (disch:=omega) only [dsB]))
  exact Post.some ⟨_,_,_,_,rfl,H,hd1,hl,hr,by simpa using he⟩
 | j + 1,r,h,l,hj,H,hd1,hl,hr,he => by
  rw [Zaf G T (c:=ZeG) rfl]
  have e1 : ((j + 1 : Nat) : Int) - 1 = (j : Int):=by omega
  have h1 : (0 : Int)≤(j : Int):=by omega
  have hx:=hL.dg j
  have hc:=Zmh (G:=G) J hr hx hd
  have hs:=ZvB (L:=L) (l:=l) (d:=d) (r:=r) (j:=j) (by omega) hl he
  have hq:=Zux hr hx
  have hm:=Nat.mod_lt (r * 4294967296 + dg L j) h0
  rw [e1]
  repeat (first | (simp (maxSteps:=9^7) only [seval,evB,Zhl,h1,hc ]) | (simp (disch:=omega) only [dsB,Zdu H]))
  exact Zpf J hL h0 hd hb j _ _ _ (by omega) (H.put _) (ZeZ hd1 hq) (by rw [List.length_set]; exact hl) hm hs
theorem Zoa (J : Al G T g) {z : Bool} {a d : Nat} (h0 : 0 < d) (hd : d < 4294967296) (hb : (dl a).length < 17179869184) :
  ∃ z1,run G T 108 [D z (dl a),.int .u32 (d : Int)] = some (.tup [D z1 (dl (a / d)),.int .u32 ((a % d : Nat) : Int)]):=by
 have hL:=ZaC a
 obtain ⟨x,hr,e,h',l',r',rfl,H,hd1,hl,hr1,hv⟩:=Zpf (G:=G) J (z:=z) (d:=d) (b:=Heap.nil.b.length) hL h0 hd (by omega) (dl a).length 0 (new .nil (List.replicate (dl a).length 0)) _ (Nat.le_refl _) (ZbN FreH.nil _) (Zjb _) (by rw [List.length_replicate]) h0 (by rw [List.drop_length,List.drop_eq_nil_of_le (by rw [List.length_replicate]; exact Nat.le_refl _)]; simp [val])
 rw [cast0] at hr
 rw [ZaN] at hv
 obtain ⟨e1,e2⟩:=Znu hr1 hv
 have hsn:=Zcq H (n:=(dl a).length) (by omega)
 rw [← hl,List.take_length] at hsn
 obtain ⟨z1,hz1⟩:=ZbM J (z:=false) hd1 (by omega)
 rw [hl] at hsn
 refine ⟨z1,?_⟩
 rw [Zac G T J.A.Zoa,← e1,← e2]
 repeat (first | (simp (maxSteps:=9^7) only [seval,evB,Zij,hr,hsn,hz1]) | (simp (disch:=omega) only [dsB]))
theorem Zmz {l : List Nat} {j : Nat} (d : Nat) (h : j < l.length) : val (l.set j d) + 4294967296 ^ j * dg l j = val l + 4294967296 ^ j * d:=by
 induction l generalizing j with
 | nil => exact absurd h (Nat.not_lt_zero _)
 | cons a l ih =>
  cases j with
  | zero =>
   have e : dg (a :: l) 0 = a:=by rw [Zfr (by simp)]; rfl
   rw [List.set_cons_zero,ZaJ,ZaJ,e,Nat.pow_zero]; omega
  | succ j =>
   have h2 : j < l.length:=by simpa using h
   have e : dg (a :: l) (j + 1) = dg l j:=by rw [Zfr h,Zfr h2]; rfl
   have:=ih h2
   rw [List.set_cons_succ,ZaJ,ZaJ,e,Nat.pow_succ]
   have e2 : ∀ x,4294967296 ^ j * 4294967296 * x = 4294967296 * (4294967296 ^ j * x):=fun x => by rw [Nat.mul_comm (4294967296 ^ j),Nat.mul_assoc]
   rw [e2,e2]
   omega
theorem Znt {l : List Nat} {i j d : Nat} (h : i≠j) : dg (l.set i d) j = dg l j:=by
 by_cases hj : j < l.length
 ·rw [Zfr (by rw [List.length_set]; exact hj),Zfr hj,List.getElem_set_ne h]
 ·rw [ZiA (by rw [List.length_set]; omega),ZiA (by omega)]
theorem ZxB {x y o c : Nat} (hx : x < 4294967296) (hy : y < 4294967296) (ho : o < 4294967296) (hc : c < 4294967296) : x * y + o + c < 18446744073709551616:=by
 have : x * y≤4294967295 * 4294967295:=Nat.mul_le_mul (by omega) (by omega)
 omega
theorem ZDs {A l0 l : List Nat} {i k x c V : Nat} (hk : i + k < l.length) (he : val l + 4294967296 ^ (i + k) * c = V + 4294967296 ^ i * (x * val (A.take k))) :
  val (l.set (i + k) ((x * dg A k + dg l (i + k) + c) % 4294967296)) + 4294967296 ^ (i + (k + 1)) * ((x * dg A k + dg l (i + k) + c) / 4294967296) = V + 4294967296 ^ i * (x * val (A.take (k + 1))):=by
 have h1:=Zmz ((x * dg A k + dg l (i + k) + c) % 4294967296) hk
 have h2:=Nat.mod_add_div (x * dg A k + dg l (i + k) + c) 4294967296
 rw [Zab,Nat.mul_add,Nat.mul_add,← Nat.add_assoc V,← he,← Nat.add_assoc,Nat.pow_succ]
 generalize (x * dg A k + dg l (i + k) + c) % 4294967296 = m at *
 generalize (x * dg A k + dg l (i + k) + c) / 4294967296 = q at *
 have e1 : 4294967296 ^ i * (x * (4294967296 ^ k * dg A k)) = 4294967296 ^ (i + k) * (x * dg A k):=by
  rw [Nat.pow_add,Nat.mul_left_comm x,Nat.mul_assoc]
 rw [e1]
 generalize 4294967296 ^ (i + k) = p at *
 rw [Nat.mul_assoc]
 have h3 : p * m + p * (4294967296 * q) = p * (x * dg A k) + p * dg l (i + k) + p * c:=by rw [← Nat.mul_add,h2,Nat.mul_add,Nat.mul_add]
 omega
theorem Zrf {B : List Nat} {zb : Bool} {i x b n : Nat} {va : AV} {na : Int} (hB : Dg B) (hx : x < 4294967296) (hs : n < 549755813888) (hn : i + B.length < n) (V : Nat) : ∀ (m k : Nat) (h : Heap) (l : List Nat) (c : Nat),
  m + k = B.length→Holds h b l→Dg l→l.length = n→c < 4294967296→(∀ j,i + B.length≤j→dg l j = 0)→val l + 4294967296 ^ (i + k) * c = V + 4294967296 ^ i * (x * val (B.take k)) →
  Post (evL G T ZgI [(1,D zb B),(5,.own b 0 n 1),(6,.int .i64 (i : Int)),(7,.int .u32 (x : Int)),(8,.int .u64 (c : Int)),(18,va),(19,.int .i64 na),(20,.int .i64 (i : Int)),(25,D zb B),(26,.int .i64 ((B.length : Nat) : Int)),(27,.int .i64 (k : Int))] h) fun r =>
   ∃ e h' l' c',r = (.exit 2,(1,D zb B) :: (5,.own b 0 n 1) :: (6,.int .i64 (i : Int)) :: (7,.int .u32 (x : Int)) :: (8,.int .u64 ((c' : Nat) : Int)) :: (18,va) :: (19,.int .i64 na) :: (20,.int .i64 (i : Int)) :: (25,D zb B) :: (26,.int .i64 ((B.length : Nat) : Int)) :: (27,.int .i64 ((B.length : Nat) : Int)) :: e,h') ∧
    Holds h' b l'∧Dg l'∧l'.length = n∧c' < 4294967296∧(∀ j,i + B.length≤j→dg l' j = 0)∧val l' + 4294967296 ^ (i + B.length) * c' = V + 4294967296 ^ i * (x * val B)
 | 0,k,h,l,c,hm,H,hd,hl,hc,hz,he => by
  rw [Zaf G T (c:=ZgI) rfl]
  have h1 : ¬ (k : Int) < B.length:=by omega
  repeat (first | (simp (maxSteps:=9^7) only [seval,evB,Zjj,h1]) | (simp (disch:=omega) only [dsB]))
  obtain rfl : k = B.length:=by omega
  rw [List.take_length] at he
  exact Post.some ⟨_,_,_,_,rfl,H,hd,hl,hc,hz,he⟩
 | m + 1,k,h,l,c,hm,H,hd,hl,hc,hz,he => by
  rw [Zaf G T (c:=ZgI) rfl]
  have h1 : (k : Int) < B.length:=by omega
  have e7 : (k : Int) + 1 = ((k + 1 : Nat) : Int):=by omega
  have e8 : (i : Int) + (k : Int) = ((i + k : Nat) : Int):=by omega
  have hy:=hB.dg k
  have ho:=hd.dg (i + k)
  have hik : i + k < l.length:=by omega
  have w1 : (x : Int) % 18446744073709551616 = x:=by omega
  have w2 : (dg B k : Int) % 18446744073709551616 = dg B k:=by omega
  have w3 : (dg l (i + k) : Int) % 18446744073709551616 = dg l (i + k):=by omega
  have hM:=ZxB hx hy ho hc
  have key:=ZDs (l0:=l) (A:=B) (x:=x) hik he
  have w4 : (x : Int) * (dg B k : Int) = ((x * dg B k : Nat) : Int):=by rw [Int.natCast_mul]
  generalize x * dg B k = p at *
  have w5 : (p : Int) % 18446744073709551616 = p:=by omega
  have w6 : ((p : Int) + (dg l (i + k) : Int)) % 18446744073709551616 = (p : Int) + dg l (i + k):=by omega
  have w7 : ((p : Int) + (dg l (i + k) : Int) + (c : Int)) % 18446744073709551616 = ((p + dg l (i + k) + c : Nat) : Int):=by omega
  have w8 : ((p + dg l (i + k) + c : Nat) : Int) % 4294967296 = (((p + dg l (i + k) + c) % 4294967296 : Nat) : Int):=by omega
  have w9 : ((p + dg l (i + k) + c : Nat) : Int) / 4294967296 = (((p + dg l (i + k) + c) / 4294967296 : Nat) : Int):=by omega
  repeat (first | (simp (maxSteps:=9^7) only [seval,evB,Zjj,h1,e7,e8,w1,w2,w3,w4,w5,w6,w7,w8,w9 ]) | (simp (disch:=omega) only [dsB,Zdu H,Zki G H]))
  exact Zrf hB hx hs hn V m (k + 1) _ _ _ (by omega) (H.put _) (ZeZ hd (Nat.mod_lt _ (by decide))) (by rw [List.length_set]; exact hl) (by omega) (fun j hj => by rw [Znt (by omega)]; exact hz j hj) key
theorem Zrg {A B : List Nat} {za zb : Bool} {b : Nat} (hA : Dg A) (hB : Dg B) (hs : A.length + B.length < 17179869184) : ∀ (m i : Nat) (h : Heap) (l : List Nat),
  m + i = A.length→Holds h b l→Dg l→l.length = A.length + B.length→(∀ j,i + B.length≤j→dg l j = 0)→val l = val (A.take i) * val B →
  Post (evL G T ZgJ [(1,D zb B),(5,.own b 0 (A.length + B.length) 1),(18,D za A),(19,.int .i64 ((A.length : Nat) : Int)),(20,.int .i64 (i : Int))] h) fun r =>
   ∃ e h' l',r = (.exit 0,(1,D zb B) :: (5,.own b 0 (A.length + B.length) 1) :: e,h')∧Holds h' b l'∧Dg l'∧l'.length = A.length + B.length∧val l' = val A * val B
 | 0,i,h,l,hm,H,hd,hl,hz,he => by
  rw [Zaf G T (c:=ZgJ) rfl]
  have h1 : ¬ (i : Int) < A.length:=by omega
  repeat (first | (simp (maxSteps:=9^7) only [seval,evB,Zjk,h1]) | (simp (disch:=omega) only [dsB]))
  obtain rfl : i = A.length:=by omega
  rw [List.take_length] at he
  exact Post.some ⟨_,_,_,rfl,H,hd,hl,he⟩
 | m + 1,i,h,l,hm,H,hd,hl,hz,he => by
  rw [Zaf G T (c:=ZgJ) rfl]
  have h1 : (i : Int) < A.length:=by omega
  have e7 : (i : Int) + 1 = ((i + 1 : Nat) : Int):=by omega
  have e8 : (i : Int) + (B.length : Int) = ((i + B.length : Nat) : Int):=by omega
  have hx:=hA.dg i
  obtain ⟨_,hr,e,h',l',c',rfl,H',hd',hl',hc',hz',hv'⟩:=Zrf (G:=G) (T:=T) (zb:=zb) (i:=i) (x:=dg A i) (n:=A.length + B.length) (va:=D za A) (na:=(A.length : Nat)) hB hx (by omega) (by omega) (val l) B.length 0 h l 0 (by omega) H hd hl (by omega) hz (by simp [val])
  rw [cast0] at hr
  have w1 : (c' : Int) % 4294967296 = c':=by omega
  repeat (first | (simp (maxSteps:=9^7) only [seval,evB,Zjk,h1,e7,e8,hr,w1 ]) | (simp (disch:=omega) only [dsB,Zdu H']))
  refine Zrg hA hB hs m (i + 1) _ _ (by omega) (H'.put _) (ZeZ hd' hc') (by rw [List.length_set]; exact hl') (fun j hj => by rw [Znt (by omega)]; exact hz' j (by omega)) ?_
  have h3:=Zmz (l:=l') (j:=i + B.length) c' (by omega)
  rw [hz' _ (Nat.le_refl _),Nat.mul_zero,Nat.add_zero] at h3
  rw [h3,hv',he,Zab,Nat.add_mul,Nat.mul_assoc]
theorem Zqa (J : Al G T g) {z y : Bool} {a b : Nat} (hs : (dl a).length + (dl b).length < 17179869184) : ∃ z',run G T 113 [D z (dl a),D y (dl b)] = some (D z' (dl (a * b))):=by
 obtain ⟨_,hr,e,h',l',rfl,H,hd,hl,hv⟩:=Zrg (G:=G) (T:=T) (za:=z) (zb:=y) (b:=Heap.nil.b.length) (ZaC a) (ZaC b) hs (dl a).length 0 (new .nil (List.replicate ((dl a).length + (dl b).length) 0)) _ (by omega) (ZbN FreH.nil _) (Zjb _) (by rw [List.length_replicate]) (fun j _ => by
  by_cases hj : j < ((dl a).length + (dl b).length)
  ·rw [Zfr (by rw [List.length_replicate]; exact hj),List.getElem_replicate]
  ·exact ZiA (by rw [List.length_replicate]; omega)) (by rw [List.take_zero]; simp [val,ZsJ])
 rw [cast0] at hr
 rw [ZaN,ZaN] at hv
 have hsn:=Zcq H (n:=(dl a).length + (dl b).length) (by omega)
 rw [← hl,List.take_length] at hsn
 obtain ⟨z',hz⟩:=ZbM J (z:=false) hd (by omega)
 rw [hl] at hsn
 refine ⟨z',?_⟩
 have e8 : ((dl a).length : Int) + ((dl b).length : Int) = (((dl a).length + (dl b).length : Nat) : Int):=by omega
 rw [Zac G T J.A.Zqa,← hv]
 repeat (first | (simp (maxSteps:=9^7) only [seval,evB,Zlf,e8,hr,hsn,hz]) | (simp (disch:=omega) only [dsB]))
theorem q_lt {X V D T P g : Nat} (hV : D * P≤V) (hX : X < (T + 1) * P) (hg : T < g * D) : X / V < g:=by
 apply Nat.div_lt_of_lt_mul
 calc X < (T + 1) * P:=hX
  _≤(g * D) * P:=Nat.mul_le_mul_right _ hg
  _ = g * (D * P):=Nat.mul_assoc ..
  _≤g * V:=Nat.mul_le_mul_left _ hV
  _ = V * g:=Nat.mul_comm ..
theorem q_ge {X V D T P g : Nat} (h0 : 0 < V) (hV : V≤(D + 1) * P) (hX : T * P≤X) (hg : g * D≤T) (hD : g≤D + 1) : g≤X / V + 1:=by
 rcases Nat.eq_zero_or_pos g with rfl | hp
 ·exact Nat.zero_le _
 ·obtain ⟨k,rfl⟩ : ∃ k,g = k + 1:=⟨g - 1,by omega⟩
  have : k≤X / V:=by
   rw [Nat.le_div_iff_mul_le h0]
   calc k * V≤k * ((D + 1) * P):=Nat.mul_le_mul_left _ hV
    _ = (k * D + k) * P:=by rw [← Nat.mul_assoc,Nat.mul_add,Nat.mul_one]
    _≤((k + 1) * D) * P:=Nat.mul_le_mul_right _ (by rw [Nat.add_mul]; omega)
    _≤T * P:=Nat.mul_le_mul_right _ hg
    _≤X:=hX
  omega
theorem Zxj {X V v1 v2 t u P g l : Nat} (h0 : 0 < V) (hV : (v1 * 4294967296 + v2) * P≤V) (hV2 : V≤(v1 * 4294967296 + v2 + 1) * P) (hX1 : (t * 4294967296 + u) * P≤X)
  (hv1 : 1≤v1) (hv2 : v2 < 4294967296) (hgl : g * v1 + l = t) (ht : t < v1 * 4294967296 + 4294967296) (hq : X / V≤g)
  (h : (g < 4294967296∧g * v2≤l * 4294967296 + u)∨4294967296≤l) : g < 4294967296∧X / V≤g∧g≤X / V + 1:=by
 have hg : g < 4294967296:=by
  rcases h with h | h
  ·exact h.1
  ·apply Classical.byContradiction; intro hc
   have : 4294967296 * v1≤g * v1:=Nat.mul_le_mul_right _ (by omega)
   omega
 refine ⟨hg,hq,q_ge h0 hV2 hX1 ?_ ?_⟩
 ·have e : g * (v1 * 4294967296 + v2) = g * v1 * 4294967296 + g * v2:=by rw [Nat.mul_add,Nat.mul_assoc]
  rw [e,← hgl]
  rcases h with h | h
  ·have:=h.2; omega
  ·have : g * v2≤4294967295 * 4294967295:=Nat.mul_le_mul (by omega) (by omega)
   omega
 ·omega
theorem ZqL {X V b g : Nat} (h : X < b * V) (hg : b≤g) : X / V < g:=by
 have h2 : X < V * b:=by rw [Nat.mul_comm]; exact h
 exact Nat.lt_of_lt_of_le (Nat.div_lt_of_lt_mul h2) hg
theorem Zvq {X V v1 v2 t u P g l : Nat} (hV : (v1 * 4294967296 + v2) * P≤V) (hX2 : X < (t * 4294967296 + u + 1) * P) (hXV : X < 4294967296 * V)
  (hgl : g * v1 + l = t) (h : 4294967296≤g∨l * 4294967296 + u < g * v2) : X / V < g:=by
 rcases h with h | h
 ·exact ZqL hXV h
 ·refine q_lt hV hX2 ?_
  have e : g * (v1 * 4294967296 + v2) = g * v1 * 4294967296 + g * v2:=by rw [Nat.mul_add,Nat.mul_assoc]
  rw [e,← hgl,Nat.add_mul,Nat.add_assoc]
  exact Nat.add_lt_add_left h _
theorem Zsi {X V v1 t P Q g l : Nat} (hV : v1 * Q≤V) (hX2 : X < (t + 1) * Q) (hv1 : 0 < v1) : X / V≤t / v1:=by
 have h1 : X / V < t / v1 + 1:=by
  refine q_lt hV hX2 ?_
  have h2:=Nat.div_add_mod t v1
  have h3:=Nat.mod_lt t hv1
  rw [Nat.add_mul,Nat.one_mul,Nat.mul_comm (t / v1)]; omega
 omega
theorem ZyQ {A A' g V d c c' w z i x y n b : Nat} (hA : A' + 4294967296 ^ i * x = A + 4294967296 ^ i * n) (he : A + g * V = b + 4294967296 ^ i * (c + w)) (hd : n + y + w = x + 4294967296 * z) (hc : c + g * d = y + 4294967296 * c') :
  A' + g * (V + 4294967296 ^ i * d) = b + 4294967296 ^ (i + 1) * (c' + z):=by
 have e1 : g * (V + 4294967296 ^ i * d) = g * V + 4294967296 ^ i * (g * d):=by rw [Nat.mul_add,Nat.mul_left_comm]
 rw [e1,Nat.pow_succ,Nat.mul_assoc]
 generalize 4294967296 ^ i = p at *
 generalize g * d = m at *
 generalize g * V = gv at *
 have h1 : p * n + p * y + p * w = p * x + p * (4294967296 * z):=by rw [← Nat.mul_add,← Nat.mul_add,hd,Nat.mul_add]
 have h2 : p * c + p * m = p * y + p * (4294967296 * c'):=by rw [← Nat.mul_add,hc,Nat.mul_add]
 rw [Nat.mul_add] at he
 rw [Nat.mul_add,Nat.mul_add]
 omega
theorem Zwf {A A' V d w z i x n b : Nat} (hA : A' + 4294967296 ^ i * x = A + 4294967296 ^ i * n) (he : A + 4294967296 ^ i * w = b + V) (hd : n + 4294967296 * z = x + d + w) :
  A' + 4294967296 ^ (i + 1) * z = b + (V + 4294967296 ^ i * d):=by
 rw [Nat.pow_succ,Nat.mul_assoc]
 generalize 4294967296 ^ i = p at *
 have h1 : p * n + p * (4294967296 * z) = p * x + p * d + p * w:=by rw [← Nat.mul_add,hd,Nat.mul_add,Nat.mul_add]
 omega
end Go.Cv
