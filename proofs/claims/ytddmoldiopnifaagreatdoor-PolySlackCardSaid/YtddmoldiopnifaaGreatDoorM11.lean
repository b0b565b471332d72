/-
 A part of the proof of the statements of this seat (texts that the law's own text leans on): no condition.
-/
import Derived.Test.YtddmoldiopnifaaGreatDoorM10
import Derived.Test.YtddmoldiopnifaaGreatDoorM8
import Derived.Test.YtddmoldiopnifaaGreatDoorM9
set_option linter.unusedVariables false
set_option linter.unusedSimpArgs false
namespace Go.Cv
def ovs (F : Fm) (md : Int) (neg : Bool) : Nat:=if md = 3∨(md = 4∧neg = true)∨(md = 5∧neg = false) then F.i0 - 1 else F.i0
theorem Zqp (F : Fm) (md : Int) (neg : Bool) : ovr F md neg = ovs F md neg + F.sgn neg:=by
 have:=ZdS F
 unfold ovr ovs
 rw [ZlM]
 split <;> omega
structure Shp (F : Fm) (d : Dy) (L : Int) (A U W e0 : Nat) (u : Int) (ex : Bool) : Prop where
 hL : L < F.low∧L < d.e∧L < u
 hA : A = d.m * 2 ^ (d.e - L).toNat
 hU : U = 2 ^ (u - L).toNat
 lou : F.low≤u
 he0 : e0 = F.enc W u
 wb : W≤2 ^ (F.fr + 1)∧(ex = false→W + 1≤2 ^ (F.fr + 1))
 wc : u = F.low∨2 ^ F.fr≤W
 all : ∀ md : Int,1≤md→md≤5→∃ b fl,rndW F md d = ((if F.i0≤e0 + b.toNat then ovs F md d.n else e0 + b.toNat) + F.sgn d.n,if F.i0≤e0 + b.toNat then 20 else if ex then 0 else fl) ∧
  (fl = 16∨fl = 24)∧Rd md d.n A U W ex b
theorem ZAv (F : Fm) {d : Dy} (h0 : d.m≠0) {L : Int} (l1 : L < F.low) (l2 : L < d.e) : ∃ A U W e0 u ex,Shp F d L A U W e0 u ex∧u = F.eOf (d.e + blen d.m):=by
 have hu : F.low≤F.eOf (d.e + blen d.m):=by unfold Fm.eOf; omega
 refine ⟨_,_,d.m * 2 ^ (d.e - L).toNat / 2 ^ (F.eOf (d.e + blen d.m) - L).toNat,_,F.eOf (d.e + blen d.m),decide (d.m * 2 ^ (d.e - L).toNat % 2 ^ (F.eOf (d.e + blen d.m) - L).toNat = 0),⟨⟨l1,l2,by omega⟩,rfl,rfl,hu,rfl,?_,?_,?_⟩,rfl⟩
 ·obtain ⟨b,e1,R⟩:=Zqz 3 d.n d.m (E:=d.e) (u:=F.eOf (d.e + blen d.m)) (L:=L) (by omega) (by omega)
  have q:=(ZlP F (md:=3) h0).1
  rw [e1,R.b3 rfl] at q
  refine ⟨by simpa using q,fun hx => ?_⟩
  cases hn : d.n
  ·obtain ⟨b,e1,R⟩:=Zqz 4 d.n d.m (E:=d.e) (u:=F.eOf (d.e + blen d.m)) (L:=L) (by omega) (by omega)
   have q:=(ZlP F (md:=4) h0).1
   rw [e1,R.b4 rfl,hx,hn] at q
   simpa using q
  ·obtain ⟨b,e1,R⟩:=Zqz 5 d.n d.m (E:=d.e) (u:=F.eOf (d.e + blen d.m)) (L:=L) (by omega) (by omega)
   have q:=(ZlP F (md:=5) h0).1
   rw [e1,R.b5 rfl,hx,hn] at q
   simpa using q
 ·obtain ⟨b,e1,R⟩:=Zqz 3 d.n d.m (E:=d.e) (u:=F.eOf (d.e + blen d.m)) (L:=L) (by omega) (by omega)
  have q:=(ZlP F (md:=3) h0).2.1
  rw [e1,R.b3 rfl] at q
  simpa using q
 ·intro md m1 m2
  obtain ⟨b,e1,R⟩:=Zqz md d.n d.m (E:=d.e) (u:=F.eOf (d.e + blen d.m)) (L:=L) (by omega) (by omega)
  obtain ⟨q1,q2,_,_⟩:=ZlP F (md:=md) h0
  have hb:=ZiH F q1 hu q2
  have hs : rndW F md d = wordOf F md d.n (rnd md d.n d.m d.e (F.eOf (d.e + blen d.m))).1 (rnd md d.n d.m d.e (F.eOf (d.e + blen d.m))).2 (F.eOf (d.e + blen d.m)) (d.e + blen d.m) (rnd md d.n d.m d.e (d.e + blen d.m - F.fr - 1)).1:=by
   simp only [rndW,if_neg h0]
  have he : F.enc (rnd md d.n d.m d.e (F.eOf (d.e + blen d.m))).1 (F.eOf (d.e + blen d.m)) = F.enc (d.m * 2 ^ (d.e - L).toNat / 2 ^ (F.eOf (d.e + blen d.m) - L).toNat) (F.eOf (d.e + blen d.m)) + b.toNat:=by
   rw [e1]; unfold Fm.enc; simp only; omega
  rw [he] at hb
  refine ⟨b,if blen (rnd md d.n d.m d.e (d.e + blen d.m - F.fr - 1)).1 + (d.e + blen d.m - F.fr - 1) < F.low + F.fr + 1 then 24 else 16,?_,by split <;> simp,R⟩
  rw [hs]
  unfold wordOf
  rw [he]
  by_cases hv : F.wide < blen (rnd md d.n d.m d.e (F.eOf (d.e + blen d.m))).1 + F.eOf (d.e + blen d.m)
  ·rw [if_pos hv,if_pos (hb.1 hv),if_pos (hb.1 hv),Zqp]
  ·have hv':=fun h => hv (hb.2 h)
   rw [if_neg hv,if_neg hv',if_neg hv']
   congr 1
   rw [e1]
theorem Zmb {F : Fm} {s : Nat} (n : Bool) (h : s < F.i0) {L : Int} (hL : L≤F.low) : iv (F.val (s + F.sgn n)) L = (if n then -1 else 1) * ((magN F s * 2 ^ (F.low - L).toNat : Nat) : Int)∧LoE (F.val (s + F.sgn n)) L:=by
 obtain ⟨h1,h2,_⟩:=ZsF n h
 refine ⟨?_,h2.mono hL⟩
 rw [ZkB h2 hL,h1,Int.mul_assoc,← Int.natCast_mul]
theorem Zwb {d : Dy} {L : Int} : iv d L = (if d.n then -1 else 1) * ((d.m * 2 ^ (d.e - L).toNat : Nat) : Int):=rfl
section
variable {F : Fm} {d : Dy} {L : Int} {A U W e0 : Nat} {u : Int} {ex : Bool}
theorem Shp.worth (S : Shp F d L A U W e0 u ex) : magN F e0 * 2 ^ (F.low - L).toNat = W * U:=by
 rw [S.he0,ZkD F S.wb.1 S.lou S.wc,S.hU,Nat.mul_assoc,← Nat.pow_add]
 have:=S.hL; have:=S.lou
 rw [show (u - F.low).toNat + (F.low - L).toNat = (u - L).toNat by omega]
theorem Shp.worth1 (S : Shp F d L A U W e0 u ex) (hx : ex = false) : magN F (e0 + 1) * 2 ^ (F.low - L).toNat = (W + 1) * U:=by
 rw [S.he0,← ZxZ,ZkD F (S.wb.2 hx) S.lou (S.wc.imp id fun h => by omega),S.hU,Nat.mul_assoc,← Nat.pow_add]
 have:=S.hL; have:=S.lou
 rw [show (u - F.low).toNat + (F.low - L).toNat = (u - L).toNat by omega]
theorem Zkt {s : Nat} (n : Bool) (h : s < F.i0) (hL : L≤F.low) (hd : LoE d L) : cmpD (F.val (s + F.sgn n)) d = sgI ((if n then -1 else 1) * ((magN F s * 2 ^ (F.low - L).toNat : Nat) : Int) - iv d L):=by
 obtain ⟨h1,h2⟩:=Zmb n h hL
 rw [ZnQ h2 hd,h1]
end
end Go.Cv
namespace Go.Cv
theorem ZlY {F : Fm} {s : Nat} (n : Bool) (h : s≤F.i0) : (F.cls (s + F.sgn n) = 1↔s = 0)∧(F.cls (s + F.sgn n) = 4↔s = F.i0)∧F.cls (s + F.sgn n)≠5:=by
 have hi:=ZdS F
 obtain ⟨e1,e2⟩:=ZeO n (by omega : s < F.sg)
 unfold Fm.cls Fm.ex Fm.fc
 rw [e1]
 unfold Fm.i0 at *
 have hp:=Nat.two_pow_pos F.fr
 have hm : 1 < F.most:=by cases F <;> decide
 generalize F.most = K at *
 generalize 2 ^ F.fr = P at *
 have hd:=Nat.div_add_mod s P
 have hml:=Nat.mod_lt s hp
 have h3 : s / P≤K:=by
  apply Nat.div_le_of_le_mul; rw [Nat.mul_comm]; exact h
 have h4 : s / P = K→s % P = 0:=by
  intro hk; rw [hk,Nat.mul_comm] at hd; omega
 have h5 : s / P = 0→s = s % P:=by intro hk; rw [hk,Nat.mul_zero] at hd; omega
 have h6 : s / P = K↔s = K * P:=by
  constructor
  ·intro hk; have:=h4 hk; rw [hk,this,Nat.mul_comm] at hd; omega
  ·intro hk; rw [hk,Nat.mul_div_cancel _ hp]
 have h7 : K * P≠0:=by have:=Nat.mul_pos (by omega : 0 < K) hp; omega
 have h8 : s = 0→s / P = 0:=by rintro rfl; exact Nat.zero_div _
 generalize s / P = x at *
 generalize s % P = y at *
 generalize K * P = KP at *
 clear hd
 refine ⟨?_,?_,?_⟩ <;> (repeat' split) <;> omega
structure Betw (F : Fm) (md : Int) (d : Dy) : Prop where
 ws : ∀ m : Int,1≤m→m≤5→∃ s : Nat,s≤F.i0∧(rndW F m d).1 = s + F.sgn d.n
 under : (F.cls (rndW F 5 d).1 = 4∧(rndW F 5 d).1 = F.inf true)∨(F.fin (rndW F 5 d).1∧cmpD (F.val (rndW F 5 d).1) d≤0)
 over : (F.cls (rndW F 4 d).1 = 4∧(rndW F 4 d).1 = F.inf false)∨(F.fin (rndW F 4 d).1∧0≤cmpD (F.val (rndW F 4 d).1) d)
 same : (rndW F 5 d).1 = (rndW F 4 d).1→(rndW F 5 d).2 = 0∧(rndW F 4 d).2 = 0∧(rndW F md d).2 = 0∧(rndW F md d).1 = (rndW F 5 d).1∧(rndW F 3 d).1 = (rndW F 5 d).1
 step : (rndW F 5 d).1≠(rndW F 4 d).1→(if (rndW F 5 d).1 % F.sg = 0 then (1,true) else F.up (rndW F 5 d).1) = ((rndW F 4 d).1,true)∧¬ ((rndW F 4 d).1 = F.sg∧(rndW F 4 d).1 = 0)
 flag : ∀ m : Int,1≤m→m≤5→(rndW F 5 d).1≠(rndW F 4 d).1→(rndW F m d).2 = 16∨(rndW F m d).2 = 20∨(rndW F m d).2 = 24
 one : (rndW F 5 d).1≠(rndW F 4 d).1→((rndW F md d).1 = (rndW F 5 d).1∨(rndW F md d).1 = (rndW F 4 d).1)∧((rndW F 3 d).1 = (rndW F 5 d).1↔d.n = false)∧((rndW F 3 d).1 = (rndW F 4 d).1↔d.n = true)
theorem ZEt {F : Fm} {x : Nat} (h : x < F.i0) : (if x % F.sg = 0 then (1,true) else F.up x) = (x + 1,true):=by
 have hi:=ZdS F
 obtain ⟨c1,c2,c3⟩:=ZlY (F:=F) false (Nat.le_of_lt h)
 obtain ⟨e1,e2⟩:=ZeO (F:=F) false (by omega : x < F.sg)
 simp only [Fm.sgn,Bool.false_eq_true,if_false,Nat.add_zero] at c1 c2 c3 e1 e2
 rw [e1]
 by_cases h0 : x = 0
 ·rw [if_pos h0,h0]
 ·rw [if_neg h0]
  unfold Fm.up
  rw [if_neg (fun q => by have:=c2.1 q.1; omega),if_neg (fun q => h0 (c1.1 q)),e2]
  rfl
theorem ZEs {F : Fm} {x : Nat} (h : x < F.i0) : (if (x + 1 + F.sg) % F.sg = 0 then (1,true) else F.up (x + 1 + F.sg)) = (x + F.sg,true):=by
 have hi:=ZdS F
 obtain ⟨c1,c2,c3⟩:=ZlY (F:=F) (s:=x + 1) true (by omega)
 obtain ⟨e1,e2⟩:=ZeO (F:=F) (s:=x + 1) true (by omega)
 simp only [Fm.sgn,if_true] at c1 c2 c3 e1 e2
 rw [e1,if_neg (by omega)]
 unfold Fm.up
 rw [if_neg (fun q => by rw [e2] at q; exact absurd q.2 (by decide)),if_neg (fun q => by have:=c1.1 q; omega),e2,if_pos rfl]
 congr 1; omega
section
variable {F : Fm} {md : Int} {d : Dy} {L : Int} {A : Nat}
theorem Zsb (hL : L≤F.low) (hle : LoE d L) (hd : iv d L = A) (hn : d.n = false) {x : Nat} (hx : x < F.i0)
  (hws : ∀ m : Int,1≤m→m≤5→∃ s : Nat,s≤F.i0∧(rndW F m d).1 = s + F.sgn d.n)
  (E5 : (rndW F 5 d).1 = x) (E4 : (rndW F 4 d).1 = x + 1) (E3 : (rndW F 3 d).1 = x) (E : (rndW F md d).1 = x∨(rndW F md d).1 = x + 1)
  (hf : ∀ m : Int,1≤m→m≤5→(rndW F m d).2 = 16∨(rndW F m d).2 = 20∨(rndW F m d).2 = 24)
  (h1 : magN F x * 2 ^ (F.low - L).toNat≤A) (h2 : x + 1 < F.i0→A≤magN F (x + 1) * 2 ^ (F.low - L).toNat) : Betw F md d:=by
 have hi:=ZdS F
 have s0 : F.sgn false = 0:=rfl
 refine ⟨hws,?_,?_,fun h => ?_,fun _ => ?_,fun m a b _ => hf m a b,fun _ => ?_⟩
 ·right
  have c:=Zkt (F:=F) (s:=x) false hx hL hle
  have fz:=ZcL (F:=F) (s:=x) false hx
  rw [s0,Nat.add_zero] at c fz
  rw [E5]
  refine ⟨fz,?_⟩
  rw [c,hd]
  have : ¬ 0 < sgI ((if false = true then -1 else 1) * ((magN F x * 2 ^ (F.low - L).toNat : Nat) : Int) - (A : Int)):=by
   rw [Zxi]; simp only [Bool.false_eq_true,if_false]; omega
  omega
 ·rw [E4]
  by_cases h3 : x + 1 < F.i0
  ·right
   have c:=Zkt (F:=F) (s:=x + 1) false h3 hL hle
   have fz:=ZcL (F:=F) (s:=x + 1) false h3
   rw [s0,Nat.add_zero] at c fz
   refine ⟨fz,?_⟩
   rw [c,hd]
   have:=h2 h3
   have : ¬ sgI ((if false = true then -1 else 1) * ((magN F (x + 1) * 2 ^ (F.low - L).toNat : Nat) : Int) - (A : Int)) < 0:=by
    rw [Zpm]; simp only [Bool.false_eq_true,if_false]; omega
   omega
  ·left
   have e : x + 1 = F.inf false:=by rw [ZlM,s0]; omega
   rw [e]; exact ⟨Zot F false,rfl⟩
 ·rw [E5,E4] at h; omega
 ·rw [E5,E4]; exact ⟨ZEt hx,by omega⟩
 ·rw [E5,E4,E3,hn]
  refine ⟨E,⟨fun _ => rfl,fun _ => rfl⟩,⟨fun h => by omega,fun h => by cases h⟩⟩
theorem Zsa (hL : L≤F.low) (hle : LoE d L) (hd : iv d L = -(A : Int)) (hn : d.n = true) {x : Nat} (hx : x < F.i0)
  (hws : ∀ m : Int,1≤m→m≤5→∃ s : Nat,s≤F.i0∧(rndW F m d).1 = s + F.sgn d.n)
  (E5 : (rndW F 5 d).1 = x + 1 + F.sg) (E4 : (rndW F 4 d).1 = x + F.sg) (E3 : (rndW F 3 d).1 = x + F.sg) (E : (rndW F md d).1 = x + F.sg∨(rndW F md d).1 = x + 1 + F.sg)
  (hf : ∀ m : Int,1≤m→m≤5→(rndW F m d).2 = 16∨(rndW F m d).2 = 20∨(rndW F m d).2 = 24)
  (h1 : magN F x * 2 ^ (F.low - L).toNat≤A) (h2 : x + 1 < F.i0→A≤magN F (x + 1) * 2 ^ (F.low - L).toNat) : Betw F md d:=by
 have hi:=ZdS F
 have s0 : F.sgn true = F.sg:=rfl
 refine ⟨hws,?_,?_,fun h => ?_,fun _ => ?_,fun m a b _ => hf m a b,fun _ => ?_⟩
 ·rw [E5]
  by_cases h3 : x + 1 < F.i0
  ·right
   have c:=Zkt (F:=F) (s:=x + 1) true h3 hL hle
   have fz:=ZcL (F:=F) (s:=x + 1) true h3
   rw [s0] at c fz
   refine ⟨fz,?_⟩
   rw [c,hd]
   have:=h2 h3
   have : ¬ 0 < sgI ((if true = true then -1 else 1) * ((magN F (x + 1) * 2 ^ (F.low - L).toNat : Nat) : Int) - -(A : Int)):=by
    rw [Zxi]; simp only [if_true]; omega
   omega
  ·left
   have e : x + 1 + F.sg = F.inf true:=by rw [ZlM,s0]; omega
   rw [e]; exact ⟨Zot F true,rfl⟩
 ·right
  have c:=Zkt (F:=F) (s:=x) true hx hL hle
  have fz:=ZcL (F:=F) (s:=x) true hx
  rw [s0] at c fz
  rw [E4]
  refine ⟨fz,?_⟩
  rw [c,hd]
  have : ¬ sgI ((if true = true then -1 else 1) * ((magN F x * 2 ^ (F.low - L).toNat : Nat) : Int) - -(A : Int)) < 0:=by
   rw [Zpm]; simp only [if_true]; omega
  omega
 ·rw [E5,E4] at h; omega
 ·rw [E5,E4]; exact ⟨ZEs hx,by omega⟩
 ·rw [E5,E4,E3,hn]
  refine ⟨E.symm,⟨fun h => by omega,fun h => by cases h⟩,⟨fun _ => rfl,fun _ => rfl⟩⟩
theorem ZBb (hL : L≤F.low) (hle : LoE d L) (hd : iv d L = (if d.n then -1 else 1) * (A : Int)) {x : Nat} (hx : x < F.i0)
  (hws : ∀ m : Int,1≤m→m≤5→∃ s : Nat,s≤F.i0∧(rndW F m d).1 = s + F.sgn d.n)
  (E5 : rndW F 5 d = (x + F.sgn d.n,0)) (E4 : rndW F 4 d = (x + F.sgn d.n,0)) (E3 : rndW F 3 d = (x + F.sgn d.n,0)) (E : rndW F md d = (x + F.sgn d.n,0))
  (h1 : magN F x * 2 ^ (F.low - L).toNat = A) : Betw F md d:=by
 have c:=Zkt (F:=F) (s:=x) d.n hx hL hle
 have fz:=ZcL (F:=F) (s:=x) d.n hx
 rw [h1,hd,Int.sub_self] at c
 refine ⟨hws,?_,?_,fun h => ?_,fun h => ?_,fun m a b h => ?_,fun h => ?_⟩
 ·rw [E5]; right; exact ⟨fz,by rw [c]; decide⟩
 ·rw [E4]; right; exact ⟨fz,by rw [c]; decide⟩
 ·rw [E5,E4,E3,E]; exact ⟨rfl,rfl,rfl,rfl,rfl⟩
 ·rw [E5,E4] at h; exact absurd rfl h
 ·rw [E5,E4] at h; exact absurd rfl h
 ·rw [E5,E4] at h; exact absurd rfl h
end
theorem between (F : Fm) {md : Int} (m1 : 1≤md) (m2 : md≤5) {d : Dy} (h0 : d.m≠0) : Betw F md d:=by
 have hi:=ZdS F
 obtain ⟨L,l1,l2⟩ : ∃ L : Int,L < F.low∧L < d.e:=⟨min F.low d.e - 1,by omega,by omega⟩
 obtain ⟨A,U,W,e0,u,ex,S,_⟩:=ZAv F h0 l1 l2
 obtain ⟨b5,f5,r5,g5,R5⟩:=S.all 5 (by decide) (by decide)
 obtain ⟨b4,f4,r4,g4,R4⟩:=S.all 4 (by decide) (by decide)
 obtain ⟨b3,f3,r3,g3,R3⟩:=S.all 3 (by decide) (by decide)
 obtain ⟨b,f,r,g,R⟩:=S.all md m1 m2
 have x5:=R5.b5 rfl
 have x4:=R4.b4 rfl
 have x3:=R3.b3 rfl
 have hw:=S.worth
 have hw1:=S.worth1
 have hlo:=R.lo
 have hhi:=R.hi
 have hex:=R.exi
 have hd : iv d L = (if d.n then -1 else 1) * (A : Int):=by rw [Zwb,S.hA]
 have hle : LoE d L:=Or.inr (by omega)
 have hbig : F.i0≤e0→magN F (F.i0 - 1) * 2 ^ (F.low - L).toNat≤A:=fun h => Nat.le_trans (Nat.mul_le_mul_right _ (Zrr F (by omega : F.i0 - 1≤e0))) (by rw [hw]; exact hlo)
 have hovs : ∀ m n,ovs F m n = F.i0 - 1∨ovs F m n = F.i0:=fun m n => by unfold ovs; split <;> omega
 have hws : ∀ m : Int,1≤m→m≤5→∃ s : Nat,s≤F.i0∧(rndW F m d).1 = s + F.sgn d.n:=fun m a1 a2 => by
  obtain ⟨b,f,r,_,_⟩:=S.all m a1 a2
  refine ⟨_,?_,by rw [r]⟩
  split
  ·have:=hovs m d.n; omega
  ·omega
 have hf : (F.i0≤e0∨ex = false)→∀ m : Int,1≤m→m≤5→(rndW F m d).2 = 16∨(rndW F m d).2 = 20∨(rndW F m d).2 = 24:=fun h m a1 a2 => by
  obtain ⟨b,f,r,g,_⟩:=S.all m a1 a2
  rw [r]; simp only
  by_cases q : F.i0≤e0 + b.toNat
  ·rw [if_pos q]; exact Or.inr (Or.inl rfl)
  ·rw [if_neg q]
   have : ex = false:=h.resolve_left (by omega)
   rw [this]; simp only [Bool.false_eq_true,if_false]; omega
 by_cases hb : F.i0≤e0
 ·have t : ∀ b : Bool,F.i0≤e0 + b.toNat:=fun b => by omega
  rw [if_pos (t b5)] at r5
  rw [if_pos (t b4)] at r4
  rw [if_pos (t b3)] at r3
  rw [if_pos (t b)] at r
  cases hn : d.n
  ·rw [hn] at r5 r4 r3 r hd
   have o5 : ovs F 5 false = F.i0 - 1:=by simp [ovs]
   have o4 : ovs F 4 false = F.i0:=by simp [ovs]
   have o3 : ovs F 3 false = F.i0 - 1:=by simp [ovs]
   refine Zsb (x:=F.i0 - 1) (by omega) hle (by rw [hd]; simp) hn (by omega) hws (by rw [r5,o5]; rfl) (by rw [r4,o4]; simp only [Fm.sgn,Bool.false_eq_true,if_false]; omega) (by rw [r3,o3]; rfl) ?_ (hf (Or.inl hb)) (hbig hb) (fun h => by omega)
   rw [r]; simp only [Fm.sgn,Bool.false_eq_true,if_false]
   have:=hovs md false; omega
  ·rw [hn] at r5 r4 r3 r hd
   have o5 : ovs F 5 true = F.i0:=by simp [ovs]
   have o4 : ovs F 4 true = F.i0 - 1:=by simp [ovs]
   have o3 : ovs F 3 true = F.i0 - 1:=by simp [ovs]
   refine Zsa (x:=F.i0 - 1) (by omega) hle (by rw [hd]; simp) hn (by omega) hws (by rw [r5,o5]; simp only [Fm.sgn,if_true]; omega) (by rw [r4,o4]; rfl) (by rw [r3,o3]; rfl) ?_ (hf (Or.inl hb)) (hbig hb) (fun h => by omega)
   rw [r]; simp only [Fm.sgn,if_true]
   have:=hovs md true; omega
 ·cases hx : ex
  ·subst hx
   have hw1:=hw1 rfl
   have hup : A≤magN F (e0 + 1) * 2 ^ (F.low - L).toNat:=by rw [hw1]; omega
   have hdn : magN F e0 * 2 ^ (F.low - L).toNat≤A:=by rw [hw]; exact hlo
   cases hn : d.n
   ·rw [hn] at r5 r4 r3 r hd x5 x4
    subst x5 x4 x3
    have o4 : ovs F 4 false = F.i0:=by simp [ovs]
    refine Zsb (x:=e0) (by omega) hle (by rw [hd]; simp) hn (by omega) hws (by rw [r5]; simp [hb,Fm.sgn]) ?_ (by rw [r3]; simp [hb,Fm.sgn]) ?_ (hf (Or.inr rfl)) hdn (fun _ => hup)
    ·rw [r4]; simp only [o4,Bool.not_false,Bool.and_self,Bool.toNat_true,Fm.sgn,Bool.false_eq_true,if_false]; split <;> omega
    ·rw [r]
     cases b
     ·left; simp [hb,Fm.sgn]
     ·right
      have m3 : md≠3:=fun h => by have:=R.b3 h; cases this
      have m5 : md≠5:=fun h => by have:=R.b5 h; rw [hn] at this; cases this
      have o : ovs F md false = F.i0:=by simp [ovs,m3,m5]
      simp only [o,Bool.toNat_true,Fm.sgn,Bool.false_eq_true,if_false]; split <;> omega
   ·rw [hn] at r5 r4 r3 r hd x5 x4
    subst x5 x4 x3
    have o5 : ovs F 5 true = F.i0:=by simp [ovs]
    refine Zsa (x:=e0) (by omega) hle (by rw [hd]; simp) hn (by omega) hws ?_ (by rw [r4]; simp [hb,Fm.sgn]) (by rw [r3]; simp [hb,Fm.sgn]) ?_ (hf (Or.inr rfl)) hdn (fun _ => hup)
    ·rw [r5]; simp only [o5,Bool.not_false,Bool.and_self,Bool.toNat_true,Fm.sgn,if_true]; split <;> omega
    ·rw [r]
     cases b
     ·left; simp [hb,Fm.sgn]
     ·right
      have m3 : md≠3:=fun h => by have:=R.b3 h; cases this
      have m4 : md≠4:=fun h => by have:=R.b4 h; rw [hn] at this; cases this
      have o : ovs F md true = F.i0:=by simp [ovs,m3,m4]
      simp only [o,Bool.toNat_true,Fm.sgn,if_true]; split <;> omega
  ·subst hx
   have y5:=R5.xb rfl
   have y4:=R4.xb rfl
   have y:=R.xb rfl
   subst y5 y4 y x3
   refine ZBb (x:=e0) (by omega) hle hd (by omega) hws (by rw [r5]; simp [hb]) (by rw [r4]; simp [hb]) (by rw [r3]; simp [hb]) (by rw [r]; simp [hb]) ?_
   rw [hw]; exact (hex.1 rfl).symm
end Go.Cv
namespace Go.Cv
variable {G : Nat→Option (List AV)} {T : Tbl} {g : Nat}
theorem ZCy {F : Fm} {s : Nat} (n : Bool) (h : s≤F.i0) : s + F.sgn n < 2 * F.sg:=by
 have:=ZdS F
 unfold Fm.sgn; split <;> omega
def rndS (F : Fm) (m : Int) (d : Dy) : Nat:=if d.m = 0 then 0 else
 if F.wide < blen (rnd m d.n d.m d.e (F.eOf (d.e + blen d.m))).1 + F.eOf (d.e + blen d.m) then ovs F m d.n else F.enc (rnd m d.n d.m d.e (F.eOf (d.e + blen d.m))).1 (F.eOf (d.e + blen d.m))
theorem ZAo (F : Fm) (m : Int) {d : Dy} (h0 : d.m≠0) : (rndW F m d).1 = rndS F m d + F.sgn d.n:=by
 unfold rndW rndS wordOf
 rw [if_neg h0,if_neg h0]
 simp only
 split
 ·rw [Zqp]
 ·rfl
theorem ZBP (F : Fm) {m : Int} (m1 : 1≤m) (m2 : m≤5) {d : Dy} (h0 : d.m≠0) : rndS F m d≤F.i0:=by
 obtain ⟨s,h1,h2⟩:=(between F (md:=1) (by decide) (by decide) h0).ws m m1 m2
 rw [ZAo F m h0] at h2; omega
theorem ZDI {d : Dy} (h0 : d.m≠0) : negD d = ⟨!d.n,d.m,d.e⟩:=by unfold negD; rw [if_neg h0]
theorem Znu (F : Fm) (m : Int) {s : Nat} (n : Bool) (h : s < F.i0) (h0 : s≠0) : rndW F m (F.val (s + F.sgn n)) = (s + F.sgn n,0)∧(F.val (s + F.sgn n)).m≠0:=by
 have hi:=ZdS F
 have hF:=Zak F
 obtain ⟨e1,e2⟩:=ZeO n (by omega : s < F.sg)
 have hp:=Nat.two_pow_pos F.fr
 have hd:=Nat.div_add_mod s (2 ^ F.fr)
 have hm:=Nat.mod_lt s hp
 obtain ⟨k,u,hk0,hk1,hu,hku,hv,hs⟩ : ∃ (k : Nat) (u : Int),k≠0∧k < 2 ^ (F.fr + 1)∧F.low≤u∧(u = F.low∨2 ^ F.fr≤k)∧F.val (s + F.sgn n) = mkD n k u∧F.enc k u = s:=by
  unfold Fm.val Fm.ex Fm.fc
  rw [e1,e2]
  by_cases hx : s / 2 ^ F.fr = 0
  ·rw [if_pos hx]
   rw [hx,Nat.mul_zero,Nat.zero_add] at hd
   refine ⟨s % 2 ^ F.fr,F.low,by omega,by rw [Nat.pow_succ]; omega,Int.le_refl _,Or.inl rfl,rfl,?_⟩
   unfold Fm.enc; rw [Int.sub_self]; simpa using hd
  ·rw [if_neg hx]
   have hx1 : 1≤s / 2 ^ F.fr:=Nat.pos_of_ne_zero hx
   refine ⟨2 ^ F.fr + s % 2 ^ F.fr,(s / 2 ^ F.fr : Nat) - 1 + F.low,by omega,by rw [Nat.pow_succ]; omega,by generalize s / 2 ^ F.fr = Q at *; omega,Or.inr (by omega),rfl,?_⟩
   unfold Fm.enc
   rw [show ((s / 2 ^ F.fr : Nat) - 1 + F.low - F.low : Int).toNat = s / 2 ^ F.fr - 1 by generalize s / 2 ^ F.fr = Q at *; omega,Nat.sub_mul,Nat.one_mul,Nat.mul_comm]
   have : 2 ^ F.fr * 1≤2 ^ F.fr * (s / 2 ^ F.fr):=Nat.mul_le_mul_left _ hx1
   rw [Nat.mul_one] at this; omega
 rw [hv]
 have hne:=ZsP (n:=n) hk0 u
 refine ⟨?_,hne⟩
 have hb:=Zju (n:=n) hk0 u
 have hbk:=Zaf.2 hk1
 have hE : F.eOf ((mkD n k u).e + blen (mkD n k u).m) = u:=by
  unfold Fm.eOf
  rw [hb]
  rcases hku with h1 | h1
  ·omega
  ·have:=Zau.2 h1; omega
 have hr : rnd m (mkD n k u).n (mkD n k u).m (mkD n k u).e u = (k,true):=by
  have hle : u≤(mkD n k u).e:=by rw [Zaz hk0]; simp only; omega
  unfold rnd
  rw [if_pos hle,Zrs hk0 (Int.le_refl u),Int.sub_self]; simp
 unfold rndW
 rw [if_neg hne]
 simp only
 rw [hE,hr]
 unfold wordOf
 have hbig:=ZiH F (n:=k) (u:=u) (by omega) hu hku
 rw [hs] at hbig
 rw [if_neg (fun q => by have:=hbig.1 q; omega),hs,Zww hk0]
 simp
theorem Zmp (F : Fm) (n : Bool) : F.val (0 + F.sgn n) = ⟨false,0,0⟩:=by
 have hi:=ZdS F
 obtain ⟨e1,e2⟩:=ZeO (F:=F) (s:=0) n (by omega)
 unfold Fm.val Fm.ex Fm.fc
 rw [e1]; simp [ZgA]
theorem ZuE {F : Fm} {w : Nat} (h : w < 2 * F.sg) : ∃ s n,w = s + F.sgn n∧s < F.sg∧(F.fin w→s < F.i0)∧(w = F.sg↔s = 0∧n = true):=by
 have hi:=ZdS F
 refine ⟨w % F.sg,F.ng w,?_,Nat.mod_lt _ hi.2.2.1,fun hf => ?_,?_⟩
 ·unfold Fm.ng Fm.sgn
  by_cases h1 : F.sg≤w
  ·rw [decide_eq_true h1,if_pos rfl,Nat.mod_eq_sub_mod h1,Nat.mod_eq_of_lt (by omega)]; omega
  ·rw [decide_eq_false h1,if_neg (by decide),Nat.mod_eq_of_lt (by omega)]; rfl
 ·unfold Fm.fin Fm.ex at hf
  unfold Fm.i0
  have:=Nat.div_add_mod (w % F.sg) (2 ^ F.fr)
  have h2:=Nat.mod_lt (w % F.sg) (Nat.two_pow_pos F.fr)
  have h3 : (w % F.sg / 2 ^ F.fr + 1) * 2 ^ F.fr≤F.most * 2 ^ F.fr:=Nat.mul_le_mul_right _ hf
  rw [Nat.add_mul,Nat.one_mul,Nat.mul_comm] at h3
  omega
 ·unfold Fm.ng
  constructor
  ·intro e; rw [e,Nat.mod_self]; exact ⟨rfl,decide_eq_true (Nat.le_refl _)⟩
  ·rintro ⟨h1,h2⟩
   simp only [decide_eq_true_eq] at h2
   rw [Nat.mod_eq_sub_mod h2,Nat.mod_eq_of_lt (by omega)] at h1; omega
theorem ZxY (F : Fm) (u : Int) {a b : Nat} (h : a≤b) : F.enc a u≤F.enc b u:=by unfold Fm.enc; omega
theorem Ztp (F : Fm) {m : Int} {d : Dy} (h0 : d.m≠0) :
  rndS F m d = if F.i0≤F.enc (rnd m d.n d.m d.e (F.eOf (d.e + blen d.m))).1 (F.eOf (d.e + blen d.m)) then ovs F m d.n else F.enc (rnd m d.n d.m d.e (F.eOf (d.e + blen d.m))).1 (F.eOf (d.e + blen d.m)):=by
 obtain ⟨q1,q2,_,_⟩:=ZlP F (md:=m) h0
 have hu : F.low≤F.eOf (d.e + blen d.m):=by unfold Fm.eOf; omega
 have hb:=ZiH F q1 hu q2
 unfold rndS
 rw [if_neg h0]
 by_cases h : F.wide < blen (rnd m d.n d.m d.e (F.eOf (d.e + blen d.m))).1 + F.eOf (d.e + blen d.m)
 ·rw [if_pos h,if_pos (hb.1 h)]
 ·rw [if_neg h,if_neg (fun q => h (hb.2 q))]
theorem Zqy (F : Fm) (m : Int) {a b : Dy} (ha : a.m≠0) (hb : b.m≠0) (hn : a.n = b.n) {L : Int} (la : L < a.e) (lb : L < b.e) (ll : L < F.low)
  (h : b.m * 2 ^ (b.e - L).toNat≤a.m * 2 ^ (a.e - L).toNat) : rndS F m b≤rndS F m a:=by
 have hi:=ZdS F
 have ta:=Zam ha (a.e - L).toNat
 have tb:=Zam hb (b.e - L).toNat
 have ht:=Zax h
 have hu : F.eOf (b.e + blen b.m)≤F.eOf (a.e + blen a.m):=by unfold Fm.eOf; omega
 have ha0 : F.low≤F.eOf (a.e + blen a.m):=by unfold Fm.eOf; omega
 have hb0 : F.low≤F.eOf (b.e + blen b.m):=by unfold Fm.eOf; omega
 obtain ⟨p1,p2,_,_⟩:=ZlP F (md:=m) ha
 obtain ⟨q1,q2,_,_⟩:=ZlP F (md:=m) hb
 have he : F.enc (rnd m b.n b.m b.e (F.eOf (b.e + blen b.m))).1 (F.eOf (b.e + blen b.m))≤F.enc (rnd m a.n a.m a.e (F.eOf (a.e + blen a.m))).1 (F.eOf (a.e + blen a.m)):=by
  by_cases hq : F.eOf (b.e + blen b.m) = F.eOf (a.e + blen a.m)
  ·rw [hq]
   apply ZxY
   rw [ZBR m a.n a.m (L:=L) (by omega) (by omega),ZBR m b.n b.m (L:=L) (by omega) (by omega),hn]
   exact ZyA m b.n h (by omega)
  ·rcases p2 with p2 | p2
   ·exfalso; omega
   ·unfold Fm.enc
    rw [Nat.pow_succ] at q1
    obtain ⟨j,hj⟩ : ∃ j,(F.eOf (b.e + blen b.m) - F.low).toNat = j:=⟨_,rfl⟩
    obtain ⟨k,hk⟩ : ∃ k,(F.eOf (a.e + blen a.m) - F.low).toNat = k:=⟨_,rfl⟩
    rw [hj,hk]
    have h5 : (j + 1) * 2 ^ F.fr≤k * 2 ^ F.fr:=Nat.mul_le_mul_right _ (by omega)
    rw [Nat.add_mul,Nat.one_mul] at h5
    omega
 rw [Ztp F ha,Ztp F hb,hn]
 rw [hn] at he
 have ho : ovs F m b.n = F.i0 - 1∨ovs F m b.n = F.i0:=by unfold ovs; split <;> omega
 split <;> split <;> omega
def keyW (s : Nat) (n : Bool) : Int:=if n then -(s : Int) else s
theorem ZuU (F : Fm) {s t : Nat} {n k : Bool} (hs : s≤F.i0) (ht : t≤F.i0) (h : keyW t k≤keyW s n) : aboveW F (s + F.sgn n) (t + F.sgn k) = true:=by
 have hi:=ZdS F
 unfold aboveW
 have e1 : ∀ (s : Nat) (n k : Bool),s≤F.i0→(s + F.sgn n = F.i0 + F.sgn k↔s = F.i0∧n = k):=fun s n k hs => by
  unfold Fm.sgn
  cases n <;> cases k <;> simp <;> omega
 have d1 : (s + F.sgn n = F.inf false∨t + F.sgn k = F.inf true)↔((s = F.i0∧n = false)∨(t = F.i0∧k = true)):=by rw [ZlM,ZlM,e1 s n false hs,e1 t k true ht]
 have d2 : (s + F.sgn n = F.inf true∨t + F.sgn k = F.inf false)↔((s = F.i0∧n = true)∨(t = F.i0∧k = false)):=by rw [ZlM,ZlM,e1 s n true hs,e1 t k false ht]
 by_cases c1 : (s = F.i0∧n = false)∨(t = F.i0∧k = true)
 ·rw [if_pos (d1.2 c1)]
 ·rw [if_neg (fun q => c1 (d1.1 q))]
  by_cases c2 : (s = F.i0∧n = true)∨(t = F.i0∧k = false)
  ·exfalso
   unfold keyW at h
   cases n <;> cases k <;> simp at h c1 c2 <;> omega
  ·rw [if_neg (fun q => c2 (d2.1 q))]
   have s1 : s < F.i0:=by
    rcases Nat.lt_or_ge s F.i0 with q | q
    ·exact q
    ·exfalso; cases n
     ·exact c1 (Or.inl ⟨by omega,rfl⟩)
     ·exact c2 (Or.inl ⟨by omega,rfl⟩)
   have t1 : t < F.i0:=by
    rcases Nat.lt_or_ge t F.i0 with q | q
    ·exact q
    ·exfalso; cases k
     ·exact c2 (Or.inr ⟨by omega,rfl⟩)
     ·exact c1 (Or.inr ⟨by omega,rfl⟩)
   obtain ⟨v1,v2,_⟩:=ZsF n s1
   obtain ⟨w1,w2,_⟩:=ZsF k t1
   rw [ZnQ v2 w2,v1,w1]
   apply decide_eq_true
   have hnot : ¬ ((if n = true then -1 else 1) * (magN F s : Int) - (if k = true then -1 else 1) * (magN F t : Int)) < 0:=by
    unfold keyW at h
    have z:=Zwr F
    cases n <;> cases k <;> simp only [Bool.false_eq_true,if_false,if_true] at h ⊢
    ·have:=Zrr F (by omega : t≤s); omega
    ·omega
    ·have h1 : s = 0:=by omega
     have h2 : t = 0:=by omega
     subst h1 h2; omega
    ·have:=Zrr F (by omega : s≤t); omega
   have:=Zpm (x:=(if n = true then -1 else 1) * (magN F s : Int) - (if k = true then -1 else 1) * (magN F t : Int))
   omega
theorem Zph (F : Fm) {m : Int} (m1 : 1≤m) (m2 : m≤5) (d : Dy) : ∃ s n,(rndW F m d).1 = s + F.sgn n∧s≤F.i0∧s = rndS F m d∧(d.m = 0→s = 0∧n = false)∧(d.m≠0→n = d.n):=by
 by_cases h0 : d.m = 0
 ·refine ⟨0,false,?_,Nat.zero_le _,?_,fun _ => ⟨rfl,rfl⟩,fun h => absurd h0 h⟩
  ·unfold rndW; rw [if_pos h0]; rfl
  ·unfold rndS; rw [if_pos h0]
 ·exact ⟨rndS F m d,d.n,ZAo F m h0,ZBP F m1 m2 h0,rfl,fun h => absurd h h0,fun _ => rfl⟩
theorem ZDB (F : Fm) (a b : Dy) : ∃ L : Int,L < F.low∧L < a.e∧L < b.e:=⟨min F.low (min a.e b.e) - 1,by omega,by omega,by omega⟩
theorem Zzc {d : Dy} {L : Int} (h : L < d.e) : LoE d L:=Or.inr (by omega)
theorem order (F : Fm) {m : Int} (m1 : 1≤m) (m2 : m≤5) {a b : Dy} (h : 0≤cmpD a b) : aboveW F (rndW F m a).1 (rndW F m b).1 = true:=by
 obtain ⟨L,l1,l2,l3⟩:=ZDB F a b
 rw [ZnQ (Zzc l2) (Zzc l3)] at h
 have hle : iv b L≤iv a L:=by
  have:=Zpm (x:=iv a L - iv b L); omega
 obtain ⟨s,n,e1,hs,es,sz,sn⟩:=Zph F m1 m2 a
 obtain ⟨t,k,e2,ht,et,tz,tn⟩:=Zph F m1 m2 b
 rw [e1,e2]
 refine ZuU F hs ht ?_
 have pa : a.m≠0→0 < a.m * 2 ^ (a.e - L).toNat:=fun h => Nat.mul_pos (Nat.pos_of_ne_zero h) (Nat.two_pow_pos _)
 have pb : b.m≠0→0 < b.m * 2 ^ (b.e - L).toNat:=fun h => Nat.mul_pos (Nat.pos_of_ne_zero h) (Nat.two_pow_pos _)
 rw [Zwb,Zwb] at hle
 unfold keyW
 by_cases ha : a.m = 0
 ·obtain ⟨rfl,rfl⟩:=sz ha
  rw [ha,Nat.zero_mul] at hle
  by_cases hb : b.m = 0
  ·obtain ⟨rfl,rfl⟩:=tz hb
   decide
  ·have:=pb hb
   have hk:=tn hb
   cases hbn : b.n
   ·rw [hbn] at hle; simp only [Bool.false_eq_true,if_false] at hle; split at hle <;> omega
   ·rw [hk,hbn]; simp only [Bool.false_eq_true,if_false,if_true]; omega
 ·have hna:=sn ha
  have:=pa ha
  by_cases hb : b.m = 0
  ·obtain ⟨rfl,rfl⟩:=tz hb
   rw [hb,Nat.zero_mul] at hle
   cases han : a.n
   ·rw [hna,han]; simp only [Bool.false_eq_true,if_false]; omega
   ·rw [han] at hle; simp only [if_true] at hle; split at hle <;> omega
  ·have hnb:=tn hb
   have:=pb hb
   cases han : a.n <;> cases hbn : b.n
   ·rw [han,hbn] at hle
    have:=Zqy F m ha hb (by rw [han,hbn]) l2 l3 l1 (by simp only [Bool.false_eq_true,if_false] at hle; omega)
    rw [hna,hnb,han,hbn]; simp only [Bool.false_eq_true,if_false]; omega
   ·rw [hna,hnb,han,hbn]; simp only [Bool.false_eq_true,if_false,if_true]; omega
   ·rw [han,hbn] at hle; simp only [Bool.false_eq_true,if_false,if_true] at hle; omega
   ·rw [han,hbn] at hle
    have:=Zqy F m hb ha (by rw [han,hbn]) l3 l2 l1 (by simp only [if_true] at hle; omega)
    rw [hna,hnb,han,hbn]; simp only [if_true]; omega
theorem Zsq {l : List Nat} {i d : Nat} (h : i < l.length) : (l.set i d).drop i = d :: l.drop (i + 1):=by
 rw [Zdy (by rw [List.length_set]; exact h),Zzz h,List.drop_set_of_lt (Nat.lt_succ_self i)]
theorem ZuA {L l : List Nat} {d r j : Nat} (hj : j < L.length) (hl : l.length = L.length) (h : val (L.drop (j + 1)) = val (l.drop (j + 1)) * d + r) :
  val (L.drop j) = val ((l.set j ((r * 4294967296 + dg L j) / d)).drop j) * d + (r * 4294967296 + dg L j) % d:=by
 rw [Zdy hj,Zsq (by omega),Zaw,Zaw,h]
 have:=Nat.div_add_mod (r * 4294967296 + dg L j) d
 generalize (r * 4294967296 + dg L j) / d = q at *
 generalize (r * 4294967296 + dg L j) % d = m at *
 rw [Nat.mul_add,Nat.add_mul,Nat.mul_assoc,Nat.mul_comm q d]
 generalize val (l.drop (j + 1)) * d = x at *
 omega
theorem ZtA {d r x : Nat} (hr : r < d) (hx : x < 4294967296) : (r * 4294967296 + x) / d < 4294967296:=by
 rw [Nat.div_lt_iff_lt_mul (by omega)]
 calc r * 4294967296 + x < (r + 1) * 4294967296:=by omega
  _≤d * 4294967296:=Nat.mul_le_mul_right _ hr
  _ = 4294967296 * d:=Nat.mul_comm ..
theorem Zpn {r x : Nat} (hr : r < 4294967296) (hx : x < 4294967296) : orI .u64 ((r : Int) * 4294967296 % 18446744073709551616) (x : Int) = ((r * 4294967296 + x : Nat) : Int):=by
 have e : (r : Int) * 4294967296 % 18446744073709551616 = ((r * 4294967296 : Nat) : Int):=by omega
 rw [e,or64 (by omega) (by omega),Nat.or_comm,show (4294967296 : Nat) = 2 ^ 32 from rfl,ZkI hx,Nat.add_comm]
theorem ZmE {V A d r : Nat} (hr : r < d) (h : V = A * d + r) : A = V / d∧r = V % d:=by
 subst h
 constructor
 ·rw [Nat.mul_comm,Nat.mul_add_div (by omega),Nat.div_eq_of_lt hr]; rfl
 ·rw [Nat.mul_comm,Nat.mul_add_mod,Nat.mod_eq_of_lt hr]
theorem Zlj (J : Al G T g) {r x d : Nat} (hr : r < d) (hx : x < 4294967296) (hd : d < 4294967296) :
  run G T 118 [.int .u32 (r : Int),.int .u32 (x : Int),.int .u32 (d : Int)] = some (.tup [.int .u32 (((r * 4294967296 + x) / d : Nat) : Int),.int .u32 (((r * 4294967296 + x) % d : Nat) : Int)]):=by
 rw [Zac G T J.A.Zlj]
 have w0 : (r : Int) % 18446744073709551616 = r:=by omega
 have w1 : (x : Int) % 18446744073709551616 = x:=by omega
 have w2:=Zpn (r:=r) (x:=x) (by omega) hx
 have w3 : (d : Int) % 18446744073709551616 = d:=by omega
 have hq:=ZtA hr hx
 have hm:=Nat.mod_lt (r * 4294967296 + x) (y:=d) (by omega)
 have h2 : ¬ (d : Int) = 0:=by omega
 have h3 : ¬ (d : Int)≤r:=by omega
 have w4 : ((r * 4294967296 + x : Nat) : Int).tdiv (d : Int) = (((r * 4294967296 + x) / d : Nat) : Int):=rfl
 have w5 : ((r * 4294967296 + x : Nat) : Int).tmod (d : Int) = (((r * 4294967296 + x) % d : Nat) : Int):=rfl
 generalize (r * 4294967296 + x) / d = Q at *
 generalize (r * 4294967296 + x) % d = R at *
 have w6 : (Q : Int) % 18446744073709551616 = Q:=by omega
 have w7 : (Q : Int) % 4294967296 = Q:=by omega
 have w9 : (R : Int) % 4294967296 = R:=by omega
 repeat (first | (simp (maxSteps:=9^7) only [seval,evB,Zga,w0,w1,w2,w3,w4,w5,w6,w7,w9,h2,h3]) | (simp (disch:=omega) only [dsB]))
theorem Zob (J : Al G T g) {L : List Nat} {z : Bool} {d b : Nat} (hL : Dg L) (h0 : 0 < d) (hd : d < 4294967296) (hb : L.length < 17179869184) : ∀ (j r : Nat) (h : Heap) (l : List Nat),
  j≤L.length→Holds h b l→Dg l→l.length = L.length→r < d→val (L.drop j) = val (l.drop j) * d + r →
  Post (evL G T ZdY [(0,D z L),(1,.int .u32 (d : Int)),(6,.own b 0 L.length 1),(7,.int .u32 (r : Int)),(8,.int .i64 ((j : Int) - 1))] h) fun x =>
   ∃ e h' l' r',x = (.exit 0,(0,D z L) :: (1,.int .u32 (d : Int)) :: (6,.own b 0 L.length 1) :: (7,.int .u32 ((r' : Nat) : Int)) :: e,h')∧Holds h' b l'∧Dg l'∧l'.length = L.length∧r' < d∧val L = val l' * d + r'
 | 0,r,h,l,hj,H,hd1,hl,hr,he => by
  rw [Zae G T (c:=ZdY) rfl]
  have h1 : ¬ (0 : Int)≤((0 : Nat) : Int) - 1:=by omega
  repeat (first | (simp (maxSteps:=9^7) only [seval,evB,ZgN,h1]) | (simp (disch:=omega) only [dsB]))
  exact Post.some ⟨_,_,_,_,rfl,H,hd1,hl,hr,by simpa using he⟩
 | j + 1,r,h,l,hj,H,hd1,hl,hr,he => by
  rw [Zae G T (c:=ZdY) rfl]
  have e1 : ((j + 1 : Nat) : Int) - 1 = (j : Int):=by omega
  have h1 : (0 : Int)≤(j : Int):=by omega
  have hx:=hL.dg j
  have hc:=Zlj (G:=G) J hr hx hd
  have hs:=ZuA (L:=L) (l:=l) (d:=d) (r:=r) (j:=j) (by omega) hl he
  have hq:=ZtA hr hx
  have hm:=Nat.mod_lt (r * 4294967296 + dg L j) h0
  rw [e1]
  repeat (first | (simp (maxSteps:=9^7) only [seval,evB,ZgN,h1,hc ]) | (simp (disch:=omega) only [dsB,ZcS H]))
  exact Zob J hL h0 hd hb j _ _ _ (by omega) (H.put _) (Zeu hd1 hq) (by rw [List.length_set]; exact hl) hm hs
theorem Znd (J : Al G T g) {z : Bool} {a d : Nat} (h0 : 0 < d) (hd : d < 4294967296) (hb : (dl a).length < 17179869184) :
  ∃ z1,run G T 108 [D z (dl a),.int .u32 (d : Int)] = some (.tup [D z1 (dl (a / d)),.int .u32 ((a % d : Nat) : Int)]):=by
 have hL:=Zas a
 obtain ⟨x,hr,e,h',l',r',rfl,H,hd1,hl,hr1,hv⟩:=Zob (G:=G) J (z:=z) (d:=d) (b:=Heap.nil.b.length) hL h0 hd (by omega) (dl a).length 0 (new .nil (List.replicate (dl a).length 0)) _ (Nat.le_refl _) (Zbs FreH.nil _) (Ziu _) (by rw [List.length_replicate]) h0 (by rw [List.drop_length,List.drop_eq_nil_of_le (by rw [List.length_replicate]; exact Nat.le_refl _)]; simp [val])
 rw [cast0] at hr
 rw [ZaI] at hv
 obtain ⟨e1,e2⟩:=ZmE hr1 hv
 have hsn:=ZbW H (n:=(dl a).length) (by omega)
 rw [← hl,List.take_length] at hsn
 obtain ⟨z1,hz1⟩:=Zbr J (z:=false) hd1 (by omega)
 rw [hl] at hsn
 refine ⟨z1,?_⟩
 rw [Zac G T J.A.Znd,← e1,← e2]
 repeat (first | (simp (maxSteps:=9^7) only [seval,evB,ZhH,hr,hsn,hz1]) | (simp (disch:=omega) only [dsB]))
theorem ZlE {l : List Nat} {j : Nat} (d : Nat) (h : j < l.length) : val (l.set j d) + 4294967296 ^ j * dg l j = val l + 4294967296 ^ j * d:=by
 induction l generalizing j with
 | nil => exact absurd h (Nat.not_lt_zero _)
 | cons a l ih =>
  cases j with
  | zero =>
   have e : dg (a :: l) 0 = a:=by rw [ZeM (by simp)]; rfl
   rw [List.set_cons_zero,Zaw,Zaw,e,Nat.pow_zero]; omega
  | succ j =>
   have h2 : j < l.length:=by simpa using h
   have e : dg (a :: l) (j + 1) = dg l j:=by rw [ZeM h,ZeM h2]; rfl
   have:=ih h2
   rw [List.set_cons_succ,Zaw,Zaw,e,Nat.pow_succ]
   have e2 : ∀ x,4294967296 ^ j * 4294967296 * x = 4294967296 * (4294967296 ^ j * x):=fun x => by rw [Nat.mul_comm (4294967296 ^ j),Nat.mul_assoc]
   rw [e2,e2]
   omega
theorem ZmD {l : List Nat} {i j d : Nat} (h : i≠j) : dg (l.set i d) j = dg l j:=by
 by_cases hj : j < l.length
 ·rw [ZeM (by rw [List.length_set]; exact hj),ZeM hj,List.getElem_set_ne h]
 ·rw [Zit (by rw [List.length_set]; omega),Zit (by omega)]
theorem Zwq {x y o c : Nat} (hx : x < 4294967296) (hy : y < 4294967296) (ho : o < 4294967296) (hc : c < 4294967296) : x * y + o + c < 18446744073709551616:=by
 have : x * y≤4294967295 * 4294967295:=Nat.mul_le_mul (by omega) (by omega)
 omega
theorem ZBF {A l0 l : List Nat} {i k x c V : Nat} (hk : i + k < l.length) (he : val l + 4294967296 ^ (i + k) * c = V + 4294967296 ^ i * (x * val (A.take k))) :
  val (l.set (i + k) ((x * dg A k + dg l (i + k) + c) % 4294967296)) + 4294967296 ^ (i + (k + 1)) * ((x * dg A k + dg l (i + k) + c) / 4294967296) = V + 4294967296 ^ i * (x * val (A.take (k + 1))):=by
 have h1:=ZlE ((x * dg A k + dg l (i + k) + c) % 4294967296) hk
 have h2:=Nat.mod_add_div (x * dg A k + dg l (i + k) + c) 4294967296
 rw [Zab,Nat.mul_add,Nat.mul_add,← Nat.add_assoc V,← he,← Nat.add_assoc,Nat.pow_succ]
 generalize (x * dg A k + dg l (i + k) + c) % 4294967296 = m at *
 generalize (x * dg A k + dg l (i + k) + c) / 4294967296 = q at *
 have e1 : 4294967296 ^ i * (x * (4294967296 ^ k * dg A k)) = 4294967296 ^ (i + k) * (x * dg A k):=by
  rw [Nat.pow_add,Nat.mul_left_comm x,Nat.mul_assoc]
 rw [e1]
 generalize 4294967296 ^ (i + k) = p at *
 rw [Nat.mul_assoc]
 have h3 : p * m + p * (4294967296 * q) = p * (x * dg A k) + p * dg l (i + k) + p * c:=by rw [← Nat.mul_add,h2,Nat.mul_add,Nat.mul_add]
 omega
theorem Zqk {B : List Nat} {zb : Bool} {i x b n : Nat} {va : AV} {na : Int} (hB : Dg B) (hx : x < 4294967296) (hs : n < 549755813888) (hn : i + B.length < n) (V : Nat) : ∀ (m k : Nat) (h : Heap) (l : List Nat) (c : Nat),
  m + k = B.length→Holds h b l→Dg l→l.length = n→c < 4294967296→(∀ j,i + B.length≤j→dg l j = 0)→val l + 4294967296 ^ (i + k) * c = V + 4294967296 ^ i * (x * val (B.take k)) →
  Post (evL G T Zgj [(1,D zb B),(5,.own b 0 n 1),(6,.int .i64 (i : Int)),(7,.int .u32 (x : Int)),(8,.int .u64 (c : Int)),(18,va),(19,.int .i64 na),(20,.int .i64 (i : Int)),(25,D zb B),(26,.int .i64 ((B.length : Nat) : Int)),(27,.int .i64 (k : Int))] h) fun r =>
   ∃ e h' l' c',r = (.exit 2,(1,D zb B) :: (5,.own b 0 n 1) :: (6,.int .i64 (i : Int)) :: (7,.int .u32 (x : Int)) :: (8,.int .u64 ((c' : Nat) : Int)) :: (18,va) :: (19,.int .i64 na) :: (20,.int .i64 (i : Int)) :: (25,D zb B) :: (26,.int .i64 ((B.length : Nat) : Int)) :: (27,.int .i64 ((B.length : Nat) : Int)) :: e,h') ∧
    Holds h' b l'∧Dg l'∧l'.length = n∧c' < 4294967296∧(∀ j,i + B.length≤j→dg l' j = 0)∧val l' + 4294967296 ^ (i + B.length) * c' = V + 4294967296 ^ i * (x * val B)
 | 0,k,h,l,c,hm,H,hd,hl,hc,hz,he => by
  rw [Zae G T (c:=Zgj) rfl]
  have h1 : ¬ (k : Int) < B.length:=by omega
  repeat (first | (simp (maxSteps:=9^7) only [seval,evB,ZiB,h1]) | (simp (disch:=omega) only [dsB]))
  obtain rfl : k = B.length:=by omega
  rw [List.take_length] at he
  exact Post.some ⟨_,_,_,_,rfl,H,hd,hl,hc,hz,he⟩
 | m + 1,k,h,l,c,hm,H,hd,hl,hc,hz,he => by
  rw [Zae G T (c:=Zgj) rfl]
  have h1 : (k : Int) < B.length:=by omega
  have e7 : (k : Int) + 1 = ((k + 1 : Nat) : Int):=by omega
  have e8 : (i : Int) + (k : Int) = ((i + k : Nat) : Int):=by omega
  have hy:=hB.dg k
  have ho:=hd.dg (i + k)
  have hik : i + k < l.length:=by omega
  have w1 : (x : Int) % 18446744073709551616 = x:=by omega
  have w2 : (dg B k : Int) % 18446744073709551616 = dg B k:=by omega
  have w3 : (dg l (i + k) : Int) % 18446744073709551616 = dg l (i + k):=by omega
  have hM:=Zwq hx hy ho hc
  have key:=ZBF (l0:=l) (A:=B) (x:=x) hik he
  have w4 : (x : Int) * (dg B k : Int) = ((x * dg B k : Nat) : Int):=by rw [Int.natCast_mul]
  generalize x * dg B k = p at *
  have w5 : (p : Int) % 18446744073709551616 = p:=by omega
  have w6 : ((p : Int) + (dg l (i + k) : Int)) % 18446744073709551616 = (p : Int) + dg l (i + k):=by omega
  have w7 : ((p : Int) + (dg l (i + k) : Int) + (c : Int)) % 18446744073709551616 = ((p + dg l (i + k) + c : Nat) : Int):=by omega
  have w8 : ((p + dg l (i + k) + c : Nat) : Int) % 4294967296 = (((p + dg l (i + k) + c) % 4294967296 : Nat) : Int):=by omega
  have w9 : ((p + dg l (i + k) + c : Nat) : Int) / 4294967296 = (((p + dg l (i + k) + c) / 4294967296 : Nat) : Int):=by omega
  repeat (first | (simp (maxSteps:=9^7) only [seval,evB,ZiB,h1,e7,e8,w1,w2,w3,w4,w5,w6,w7,w8,w9 ]) | (simp (disch:=omega) only [dsB,ZcS H,Zjs G H]))
  exact Zqk hB hx hs hn V m (k + 1) _ _ _ (by omega) (H.put _) (Zeu hd (Nat.mod_lt _ (by decide))) (by rw [List.length_set]; exact hl) (by omega) (fun j hj => by rw [ZmD (by omega)]; exact hz j hj) key
theorem Zql {A B : List Nat} {za zb : Bool} {b : Nat} (hA : Dg A) (hB : Dg B) (hs : A.length + B.length < 17179869184) : ∀ (m i : Nat) (h : Heap) (l : List Nat),
  m + i = A.length→Holds h b l→Dg l→l.length = A.length + B.length→(∀ j,i + B.length≤j→dg l j = 0)→val l = val (A.take i) * val B →
  Post (evL G T Zgk [(1,D zb B),(5,.own b 0 (A.length + B.length) 1),(18,D za A),(19,.int .i64 ((A.length : Nat) : Int)),(20,.int .i64 (i : Int))] h) fun r =>
   ∃ e h' l',r = (.exit 0,(1,D zb B) :: (5,.own b 0 (A.length + B.length) 1) :: e,h')∧Holds h' b l'∧Dg l'∧l'.length = A.length + B.length∧val l' = val A * val B
 | 0,i,h,l,hm,H,hd,hl,hz,he => by
  rw [Zae G T (c:=Zgk) rfl]
  have h1 : ¬ (i : Int) < A.length:=by omega
  repeat (first | (simp (maxSteps:=9^7) only [seval,evB,ZiC,h1]) | (simp (disch:=omega) only [dsB]))
  obtain rfl : i = A.length:=by omega
  rw [List.take_length] at he
  exact Post.some ⟨_,_,_,rfl,H,hd,hl,he⟩
 | m + 1,i,h,l,hm,H,hd,hl,hz,he => by
  rw [Zae G T (c:=Zgk) rfl]
  have h1 : (i : Int) < A.length:=by omega
  have e7 : (i : Int) + 1 = ((i + 1 : Nat) : Int):=by omega
  have e8 : (i : Int) + (B.length : Int) = ((i + B.length : Nat) : Int):=by omega
  have hx:=hA.dg i
  obtain ⟨_,hr,e,h',l',c',rfl,H',hd',hl',hc',hz',hv'⟩:=Zqk (G:=G) (T:=T) (zb:=zb) (i:=i) (x:=dg A i) (n:=A.length + B.length) (va:=D za A) (na:=(A.length : Nat)) hB hx (by omega) (by omega) (val l) B.length 0 h l 0 (by omega) H hd hl (by omega) hz (by simp [val])
  rw [cast0] at hr
  have w1 : (c' : Int) % 4294967296 = c':=by omega
  repeat (first | (simp (maxSteps:=9^7) only [seval,evB,ZiC,h1,e7,e8,hr,w1 ]) | (simp (disch:=omega) only [dsB,ZcS H']))
  refine Zql hA hB hs m (i + 1) _ _ (by omega) (H'.put _) (Zeu hd' hc') (by rw [List.length_set]; exact hl') (fun j hj => by rw [ZmD (by omega)]; exact hz' j (by omega)) ?_
  have h3:=ZlE (l:=l') (j:=i + B.length) c' (by omega)
  rw [hz' _ (Nat.le_refl _),Nat.mul_zero,Nat.add_zero] at h3
  rw [h3,hv',he,Zab,Nat.add_mul,Nat.mul_assoc]
theorem ZoW (J : Al G T g) {z y : Bool} {a b : Nat} (hs : (dl a).length + (dl b).length < 17179869184) : ∃ z',run G T 113 [D z (dl a),D y (dl b)] = some (D z' (dl (a * b))):=by
 obtain ⟨_,hr,e,h',l',rfl,H,hd,hl,hv⟩:=Zql (G:=G) (T:=T) (za:=z) (zb:=y) (b:=Heap.nil.b.length) (Zas a) (Zas b) hs (dl a).length 0 (new .nil (List.replicate ((dl a).length + (dl b).length) 0)) _ (by omega) (Zbs FreH.nil _) (Ziu _) (by rw [List.length_replicate]) (fun j _ => by
  by_cases hj : j < ((dl a).length + (dl b).length)
  ·rw [ZeM (by rw [List.length_replicate]; exact hj),List.getElem_replicate]
  ·exact Zit (by rw [List.length_replicate]; omega)) (by rw [List.take_zero]; simp [val,ZrM])
 rw [cast0] at hr
 rw [ZaI,ZaI] at hv
 have hsn:=ZbW H (n:=(dl a).length + (dl b).length) (by omega)
 rw [← hl,List.take_length] at hsn
 obtain ⟨z',hz⟩:=Zbr J (z:=false) hd (by omega)
 rw [hl] at hsn
 refine ⟨z',?_⟩
 have e8 : ((dl a).length : Int) + ((dl b).length : Int) = (((dl a).length + (dl b).length : Nat) : Int):=by omega
 rw [Zac G T J.A.ZoW,← hv]
 repeat (first | (simp (maxSteps:=9^7) only [seval,evB,Zkq,e8,hr,hsn,hz]) | (simp (disch:=omega) only [dsB]))
theorem q_lt {X V D T P g : Nat} (hV : D * P≤V) (hX : X < (T + 1) * P) (hg : T < g * D) : X / V < g:=by
 apply Nat.div_lt_of_lt_mul
 calc X < (T + 1) * P:=hX
  _≤(g * D) * P:=Nat.mul_le_mul_right _ hg
  _ = g * (D * P):=Nat.mul_assoc ..
  _≤g * V:=Nat.mul_le_mul_left _ hV
  _ = V * g:=Nat.mul_comm ..
theorem q_ge {X V D T P g : Nat} (h0 : 0 < V) (hV : V≤(D + 1) * P) (hX : T * P≤X) (hg : g * D≤T) (hD : g≤D + 1) : g≤X / V + 1:=by
 rcases Nat.eq_zero_or_pos g with rfl | hp
 ·exact Nat.zero_le _
 ·obtain ⟨k,rfl⟩ : ∃ k,g = k + 1:=⟨g - 1,by omega⟩
  have : k≤X / V:=by
   rw [Nat.le_div_iff_mul_le h0]
   calc k * V≤k * ((D + 1) * P):=Nat.mul_le_mul_left _ hV
    _ = (k * D + k) * P:=by rw [← Nat.mul_assoc,Nat.mul_add,Nat.mul_one]
    _≤((k + 1) * D) * P:=Nat.mul_le_mul_right _ (by rw [Nat.add_mul]; omega)
    _≤T * P:=Nat.mul_le_mul_right _ hg
    _≤X:=hX
  omega
theorem ZvY {X V v1 v2 t u P g l : Nat} (h0 : 0 < V) (hV : (v1 * 4294967296 + v2) * P≤V) (hV2 : V≤(v1 * 4294967296 + v2 + 1) * P) (hX1 : (t * 4294967296 + u) * P≤X)
  (hv1 : 1≤v1) (hv2 : v2 < 4294967296) (hgl : g * v1 + l = t) (ht : t < v1 * 4294967296 + 4294967296) (hq : X / V≤g)
  (h : (g < 4294967296∧g * v2≤l * 4294967296 + u)∨4294967296≤l) : g < 4294967296∧X / V≤g∧g≤X / V + 1:=by
 have hg : g < 4294967296:=by
  rcases h with h | h
  ·exact h.1
  ·apply Classical.byContradiction; intro hc
   have : 4294967296 * v1≤g * v1:=Nat.mul_le_mul_right _ (by omega)
   omega
 refine ⟨hg,hq,q_ge h0 hV2 hX1 ?_ ?_⟩
 ·have e : g * (v1 * 4294967296 + v2) = g * v1 * 4294967296 + g * v2:=by rw [Nat.mul_add,Nat.mul_assoc]
  rw [e,← hgl]
  rcases h with h | h
  ·have:=h.2; omega
  ·have : g * v2≤4294967295 * 4294967295:=Nat.mul_le_mul (by omega) (by omega)
   omega
 ·omega
theorem ZpQ {X V b g : Nat} (h : X < b * V) (hg : b≤g) : X / V < g:=by
 have h2 : X < V * b:=by rw [Nat.mul_comm]; exact h
 exact Nat.lt_of_lt_of_le (Nat.div_lt_of_lt_mul h2) hg
theorem Zus {X V v1 v2 t u P g l : Nat} (hV : (v1 * 4294967296 + v2) * P≤V) (hX2 : X < (t * 4294967296 + u + 1) * P) (hXV : X < 4294967296 * V)
  (hgl : g * v1 + l = t) (h : 4294967296≤g∨l * 4294967296 + u < g * v2) : X / V < g:=by
 rcases h with h | h
 ·exact ZpQ hXV h
 ·refine q_lt hV hX2 ?_
  have e : g * (v1 * 4294967296 + v2) = g * v1 * 4294967296 + g * v2:=by rw [Nat.mul_add,Nat.mul_assoc]
  rw [e,← hgl,Nat.add_mul,Nat.add_assoc]
  exact Nat.add_lt_add_left h _
theorem Zrl {X V v1 t P Q g l : Nat} (hV : v1 * Q≤V) (hX2 : X < (t + 1) * Q) (hv1 : 0 < v1) : X / V≤t / v1:=by
 have h1 : X / V < t / v1 + 1:=by
  refine q_lt hV hX2 ?_
  have h2:=Nat.div_add_mod t v1
  have h3:=Nat.mod_lt t hv1
  rw [Nat.add_mul,Nat.one_mul,Nat.mul_comm (t / v1)]; omega
 omega
theorem Zxx {A A' g V d c c' w z i x y n b : Nat} (hA : A' + 4294967296 ^ i * x = A + 4294967296 ^ i * n) (he : A + g * V = b + 4294967296 ^ i * (c + w)) (hd : n + y + w = x + 4294967296 * z) (hc : c + g * d = y + 4294967296 * c') :
  A' + g * (V + 4294967296 ^ i * d) = b + 4294967296 ^ (i + 1) * (c' + z):=by
 have e1 : g * (V + 4294967296 ^ i * d) = g * V + 4294967296 ^ i * (g * d):=by rw [Nat.mul_add,Nat.mul_left_comm]
 rw [e1,Nat.pow_succ,Nat.mul_assoc]
 generalize 4294967296 ^ i = p at *
 generalize g * d = m at *
 generalize g * V = gv at *
 have h1 : p * n + p * y + p * w = p * x + p * (4294967296 * z):=by rw [← Nat.mul_add,← Nat.mul_add,hd,Nat.mul_add]
 have h2 : p * c + p * m = p * y + p * (4294967296 * c'):=by rw [← Nat.mul_add,hc,Nat.mul_add]
 rw [Nat.mul_add] at he
 rw [Nat.mul_add,Nat.mul_add]
 omega
theorem Zva {A A' V d w z i x n b : Nat} (hA : A' + 4294967296 ^ i * x = A + 4294967296 ^ i * n) (he : A + 4294967296 ^ i * w = b + V) (hd : n + 4294967296 * z = x + d + w) :
  A' + 4294967296 ^ (i + 1) * z = b + (V + 4294967296 ^ i * d):=by
 rw [Nat.pow_succ,Nat.mul_assoc]
 generalize 4294967296 ^ i = p at *
 have h1 : p * n + p * (4294967296 * z) = p * x + p * d + p * w:=by rw [← Nat.mul_add,hd,Nat.mul_add,Nat.mul_add]
 omega
theorem ZyW (x : Int) : evUn .xor (.int .u32 x) = some (.int .u32 (xorI .u32 4294967295 x)):=by rw [ZpD]; rfl
theorem xor32 {a b : Nat} (ha : a < 4294967296) (hb : b < 4294967296) : xorI .u32 (a : Int) (b : Int) = ((a ^^^ b : Nat) : Int):=by
 have : a ^^^ b < 2 ^ 32:=Nat.xor_lt_two_pow (n:=32) ha hb
 rw [ZpD]
 show IntKind.u32.wrap ((BitVec.ofInt 32 a ^^^ BitVec.ofInt 32 b).toNat : Int) = _
 rw [show BitVec.ofInt 32 (a : Int) = BitVec.ofNat 32 a from rfl,show BitVec.ofInt 32 (b : Int) = BitVec.ofNat 32 b from rfl,BitVec.toNat_xor,BitVec.toNat_ofNat,BitVec.toNat_ofNat,Nat.mod_eq_of_lt (by omega),Nat.mod_eq_of_lt (by omega),Zlh]
 omega
theorem ZCn {n : Nat} (h : n < 4294967296) : n / 2147483648 = (n.testBit 31).toNat:=by
 rw [Nat.testBit_eq_decide_div_mod_eq,show (2 : Nat) ^ 31 = 2147483648 from rfl]
 by_cases h2 : n / 2147483648 % 2 = 1
 ·rw [decide_eq_true h2]; simp only [Bool.toNat_true]; omega
 ·rw [decide_eq_false h2]; simp only [Bool.toNat_false]; omega
theorem Zug {x y d w z : Nat} (hx : x < 4294967296) (hy : y < 4294967296) (hd : d < 4294967296) (hw : w≤1) (hz : z≤1) (h : d + y + w = x + 4294967296 * z) :
  (((4294967295 ^^^ x) &&& y) ||| ((4294967295 ^^^ (x ^^^ y)) &&& d)) / 2147483648 = z:=by
 have l1 : ((4294967295 ^^^ x) &&& y) ||| ((4294967295 ^^^ (x ^^^ y)) &&& d) < 4294967296 :=
  Nat.or_lt_two_pow (n:=32) (Nat.and_lt_two_pow _ hy) (Nat.and_lt_two_pow _ hd)
 rw [ZCn l1]
 have t1 : Nat.testBit 4294967295 31 = true:=by decide
 simp only [Nat.testBit_or,Nat.testBit_and,Nat.testBit_xor,t1]
 have e : ∀ n,n < 4294967296→n.testBit 31 = decide (2147483648≤n):=fun n hn => by
  rw [Nat.testBit_eq_decide_div_mod_eq,show (2 : Nat) ^ 31 = 2147483648 from rfl]
  by_cases h2 : 2147483648≤n
  ·rw [decide_eq_true h2]; simp only [decide_eq_true_eq]; omega
  ·rw [decide_eq_false h2]; simp only [decide_eq_false_iff_not]; omega
 rw [e x hx,e y hy,e d hd]
 by_cases a : 2147483648≤x <;> by_cases b : 2147483648≤y <;> by_cases c : 2147483648≤d <;> simp [a,b,c] <;> omega
theorem ZgX (J : Al G T g) {x y w d z : Nat} (hx : x < 4294967296) (hy : y < 4294967296) (hw : w≤1) (hd : d < 4294967296) (hz : z≤1) (h : d + y + w = x + 4294967296 * z) :
  run G T 121 [.int .u32 (x : Int),.int .u32 (y : Int),.int .u32 (w : Int)] = some (.tup [.int .u32 (d : Int),.int .u32 (z : Int)]):=by
 rw [Zac G T J.A.ZgX]
 have w1 : ((x : Int) - y) % 4294967296 = ((x : Int) - y) % 4294967296:=rfl
 have w2 : (((x : Int) - y) % 4294967296 - w) % 4294967296 = (d : Int):=by omega
 have n1 : (4294967295 ^^^ x) < 4294967296:=Nat.xor_lt_two_pow (n:=32) (by decide) hx
 have n2 : (x ^^^ y) < 4294967296:=Nat.xor_lt_two_pow (n:=32) hx hy
 have n3 : (4294967295 ^^^ (x ^^^ y)) < 4294967296:=Nat.xor_lt_two_pow (n:=32) (by decide) n2
 have x1:=xor32 (a:=4294967295) (b:=x) (by decide) hx
 have x2:=xor32 hx hy
 have x3:=xor32 (a:=4294967295) (b:=x ^^^ y) (by decide) n2
 rw [show ((4294967295 : Nat) : Int) = 4294967295 from rfl] at x1 x3
 have a1:=and32 n1 hy
 have a2:=and32 n3 hd
 have l1:=Nat.and_lt_two_pow (n:=32) (4294967295 ^^^ x) hy
 have l2:=Nat.and_lt_two_pow (n:=32) (4294967295 ^^^ (x ^^^ y)) hd
 have o1:=or32 l1 l2
 have b1:=Zug hx hy hd hw hz h
 have b2 : (((((4294967295 ^^^ x) &&& y) ||| ((4294967295 ^^^ (x ^^^ y)) &&& d)) : Nat) : Int) / 2147483648 = (z : Int):=by
  rw [← b1]; rfl
 repeat (first | (simp (maxSteps:=9^7) only [seval,evB,Zgb,ZyW,w2,x1,x2,x3,a1,a2,o1,b2]) | (simp (disch:=omega) only [dsB]))
theorem ZgW (J : Al G T g) {x y w d z : Nat} (hx : x < 4294967296) (hy : y < 4294967296) (hw : w≤1) (hd : d < 4294967296) (hz : z≤1) (h : d + 4294967296 * z = x + y + w) :
  run G T 112 [.int .u32 (x : Int),.int .u32 (y : Int),.int .u32 (w : Int)] = some (.tup [.int .u32 (d : Int),.int .u32 (z : Int)]):=by
 rw [Zac G T J.A.ZgW]
 have w1 : (x : Int) % 18446744073709551616 = x:=by omega
 have w2 : (y : Int) % 18446744073709551616 = y:=by omega
 have w3 : (w : Int) % 18446744073709551616 = w:=by omega
 have w4 : ((x : Int) + y) % 18446744073709551616 = (x : Int) + y:=by omega
 have w5 : ((x : Int) + y + w) % 18446744073709551616 = (x : Int) + y + w:=by omega
 have w6 : ((x : Int) + y + w) % 4294967296 = d:=by omega
 have w7 : ((x : Int) + y + w) / 4294967296 = z:=by omega
 have w8 : (z : Int) % 4294967296 = z:=by omega
 repeat (first | (simp (maxSteps:=9^7) only [seval,evB,ZfZ,w1,w2,w3,w4,w5,w6,w7,w8]) | (simp (disch:=omega) only [dsB]))
theorem ZBc (J : Al G T g) {x : Nat} (hx : x < 4294967296) : run G T 119 [.int .u32 (x : Int)] = some (.int .i64 ((32 - blen x : Nat) : Int)):=by
 rw [Zac G T J.A.bits_LeadingZeros32]
 have h1:=Zjd (G:=G) J hx
 have hb : blen x≤32:=Zaf.2 hx
 have w1 : (32 : Int) - (blen x : Nat) = ((32 - blen x : Nat) : Int):=by omega
 repeat (first | (simp (maxSteps:=9^7) only [seval,evB,Zbh,h1,w1]) | (simp (disch:=omega) only [dsB]))
theorem ZdA {b off n : Nat} {k : IntKind} {j : Int} (hj : 0≤j∧j < n) : iaddrV 1 (.own b off n 1) (.int k j) = some (.ptr b (off + j.toNat)):=by
 rw [iaddrV,if_pos ⟨hj.1,hj.2,rfl⟩,Nat.mul_one]
theorem ZCR {A W C : List Nat} {i : Nat} (hi : i < W.length) : dg (A ++ W ++ C) (A.length + i) = dg W i:=by
 rw [ZeM (by simp only [List.length_append]; omega),ZeM hi,List.getElem_append_left (by simp only [List.length_append]; omega),List.getElem_append_right (by omega)]
 congr 1; omega
theorem ZBj {V C : List Nat} {i : Nat} (hi : i < V.length) : dg (V ++ C) i = dg V i:=by
 rw [ZeM (by simp only [List.length_append]; omega),ZeM hi,List.getElem_append_left hi]
theorem ZCd {A W C : List Nat} {i x : Nat} (hi : i < W.length) : (A ++ W ++ C).set (A.length + i) x = A ++ W.set i x ++ C:=by
 rw [List.set_append_left _ _ (by simp only [List.length_append]; omega),List.set_append_right _ _ (by omega),Nat.add_sub_cancel_left]
theorem ZmX {h : Heap} {b : Nat} {A W C : List Nat} (H : Holds h b (A ++ W ++ C)) {i : Nat} (hi : i < W.length) : rdAt G h.mem 1 (.ptr b (A.length + i)) = some [.int .u32 (dg W i)]:=by
 rw [Zjs (G:=G) H (by simp only [List.length_append]; omega),ZCR hi]
theorem Zqd {h : Heap} {b : Nat} {V C : List Nat} (H : Holds h b (V ++ C)) {i : Nat} (hi : i < V.length) : rdAt G h.mem 1 (.ptr b i) = some [.int .u32 (dg V i)]:=by
 rw [Zjs (G:=G) H (by simp only [List.length_append]; omega),ZBj hi]
theorem Zpv {h : Heap} {b : Nat} {A W C : List Nat} (H : Holds h b (A ++ W ++ C)) {i x : Nat} (hi : i < W.length) :
  storeV h 1 (.ptr b (A.length + i)) (.int .u32 (x : Int)) = some (.tup [],put h b (A ++ W.set i x ++ C)):=by
 rw [ZcS H (by simp only [List.length_append]; omega),ZCd hi]
theorem ZuC {h : Heap} {bu bv n : Nat} {A W C V V2 : List Nat} {X Y P v1 v2 t u : Nat} (HU : Holds h bu (A ++ W ++ C)) (HV : Holds h bv (V ++ V2)) (hW : W.length = n + 1) (hV : V.length = n) (hn : 2≤n) (hs : n < 549755813888)
  (dV : Dg V) (dW : Dg W) (e1 : dg V (n - 1) = v1) (e2 : dg V (n - 2) = v2) (e3 : dg W (n - 2) = u) (h0 : 0 < Y) (hV1 : (v1 * 4294967296 + v2) * P≤Y) (hV2 : Y≤(v1 * 4294967296 + v2 + 1) * P) (hX1 : (t * 4294967296 + u) * P≤X)
  (hX2 : X < (t * 4294967296 + u + 1) * P) (hXV : X < 4294967296 * Y) (hv1 : 1≤v1) (ht : t < v1 * 4294967296 + 4294967296) (htb : t < 18446744073709551616) : ∀ (g l : Nat),
  l < 4294967296→g * v1 + l = t→X / Y≤g →
  Post (evL G T Zbi [(0,.own bu A.length (n + 1) 1),(1,.own bv 0 n 1),(5,.int .i64 (n : Int)),(7,.int .u64 (g : Int)),(8,.int .u64 (l : Int))] h) fun r =>
   ∃ e g',r = (.exit 0,(0,.own bu A.length (n + 1) 1) :: (1,.own bv 0 n 1) :: (5,.int .i64 (n : Int)) :: (7,.int .u64 ((g' : Nat) : Int)) :: e,h)∧g' < 4294967296∧X / Y≤g'∧g'≤X / Y + 1:=by
 intro g
 induction g using Nat.strongRecOn with
 | ind g ih =>
  intro l hl hgl hq
  have hv2 : v2 < 4294967296:=e2 ▸ dV.dg _
  have hu : u < 4294967296:=e3 ▸ dW.dg _
  have hv1' : v1 < 4294967296:=e1 ▸ dV.dg _
  have hend:=fun g l => ZvY (X:=X) (V:=Y) (t:=t) (u:=u) (P:=P) (g:=g) (l:=l) h0 hV1 hV2 hX1 hv1 hv2
  have hdn:=Zus (g:=g) (l:=l) hV1 hX2 hXV hgl
  have hgt : g≤t:=Nat.le_trans (Nat.le_mul_of_pos_right g hv1) (by omega)
  have hstep : 1≤g→(g - 1) * v1 + (l + v1) = t:=fun hg => by
   obtain ⟨k,rfl⟩ : ∃ k,g = k + 1:=⟨g - 1,by omega⟩
   rw [Nat.add_mul] at hgl; simp only [Nat.add_sub_cancel]; omega
  clear hX1 hX2 hXV hV1 hV2
  generalize X / Y = q at *
  rw [Zae G T (c:=Zbi) rfl]
  have i1 : (n : Int) - 1 = ((n - 1 : Nat) : Int):=by omega
  have i2 : (n : Int) - 2 = ((n - 2 : Nat) : Int):=by omega
  have l1:=Zqd (G:=G) HV (i:=n - 1) (by omega)
  have l2:=Zqd (G:=G) HV (i:=n - 2) (by omega)
  have l3:=ZmX (G:=G) HU (i:=n - 2) (by omega)
  rw [e1] at l1
  rw [e2] at l2
  rw [e3] at l3
  have wv1 : (v1 : Int) % 18446744073709551616 = v1:=by omega
  have wv2 : (v2 : Int) % 18446744073709551616 = v2:=by omega
  have wu : (u : Int) % 18446744073709551616 = u:=by omega
  have wl : ((l : Int) + v1) % 18446744073709551616 = ((l + v1 : Nat) : Int):=by omega
  have wo:=Zpn (r:=l) (x:=u) hl hu
  have wg : 1≤g→((g : Int) - 1) % 18446744073709551616 = ((g - 1 : Nat) : Int):=fun hg => by omega
  have fin : (hg : q < g)→Post (if (4294967296 : Int)≤((l + v1 : Nat) : Int) then some ((.exit 0,[(0,.own bu A.length (n + 1) 1),(1,.own bv 0 n 1),(5,.int .i64 (n : Int)),(7,.int .u64 ((g - 1 : Nat) : Int)),(8,.int .u64 ((l + v1 : Nat) : Int)),(80,.bool true)],h) : Ex × Env × Heap)
    else evL G T Zbi [(0,.own bu A.length (n + 1) 1),(1,.own bv 0 n 1),(5,.int .i64 (n : Int)),(7,.int .u64 ((g - 1 : Nat) : Int)),(8,.int .u64 ((l + v1 : Nat) : Int)),(80,.bool false)] h) fun r =>
   ∃ e g',r = (.exit 0,(0,.own bu A.length (n + 1) 1) :: (1,.own bv 0 n 1) :: (5,.int .i64 (n : Int)) :: (7,.int .u64 ((g' : Nat) : Int)) :: e,h)∧g' < 4294967296∧q≤g'∧g'≤q + 1:=by
   intro hg
   by_cases c2 : 4294967296≤l + v1
   ·rw [if_pos (by omega)]
    exact Post.some ⟨_,_,rfl,hend _ _ (hstep (by omega)) ht (by omega) (Or.inr c2)⟩
   ·rw [if_neg (by omega),show evL G T Zbi [(0,.own bu A.length (n + 1) 1),(1,.own bv 0 n 1),(5,.int .i64 (n : Int)),(7,.int .u64 ((g - 1 : Nat) : Int)),(8,.int .u64 ((l + v1 : Nat) : Int)),(80,.bool false)] h = evL G T Zbi [(0,.own bu A.length (n + 1) 1),(1,.own bv 0 n 1),(5,.int .i64 (n : Int)),(7,.int .u64 ((g - 1 : Nat) : Int)),(8,.int .u64 ((l + v1 : Nat) : Int))] h by
     rw [Zae G T (c:=Zbi) rfl,Zae G T (c:=Zbi) rfl]; rfl]
    exact ih (g - 1) (by omega) (l + v1) (by omega) (hstep (by omega)) (by omega)
  by_cases c1 : 4294967296≤g
  ·have hg:=hdn (Or.inl c1)
   have c1' : (4294967296 : Int)≤(g : Int):=by omega
   have wg:=wg (by omega)
   have fin:=fin hg
   clear hend hdn ih hstep
   by_cases c2 : (4294967296 : Int)≤((l + v1 : Nat) : Int)
   ·rw [if_pos c2] at fin
    repeat (first | (simp (maxSteps:=9^7) only [seval,evB,Zcp,c1',c2,wg,wl,wv1,i1,l1 ]) | (simp (disch:=omega) only [dsB,ZdA]))
    exact fin
   ·rw [if_neg c2] at fin
    repeat (first | (simp (maxSteps:=9^7) only [seval,evB,Zcp,c1',c2,wg,wl,wv1,i1,l1 ]) | (simp (disch:=omega) only [dsB,ZdA]))
    exact fin
  ·have c1' : ¬ (4294967296 : Int)≤(g : Int):=by omega
   have hp : g * v2≤4294967295 * 4294967295:=Nat.mul_le_mul (by omega) (by omega)
   have wp : (g : Int) * (v2 : Int) = ((g * v2 : Nat) : Int):=by rw [Int.natCast_mul]
   have wp2 : ((g * v2 : Nat) : Int) % 18446744073709551616 = ((g * v2 : Nat) : Int):=by omega
   by_cases c3 : l * 4294967296 + u < g * v2
   ·have hg:=hdn (Or.inr c3)
    have wg:=wg (by omega)
    have fin:=fin hg
    have c3' : ((l * 4294967296 + u : Nat) : Int) < ((g * v2 : Nat) : Int):=by omega
    clear hend hdn ih hstep
    by_cases c2 : (4294967296 : Int)≤((l + v1 : Nat) : Int)
    ·rw [if_pos c2] at fin
     repeat (first | (simp (maxSteps:=9^7) only [seval,evB,Zcp,c1',c2,c3',wp,wp2,wo,wu,wv2,wg,wl,wv1,i1,i2,l1,l2,l3 ]) | (simp (disch:=omega) only [dsB,ZdA]))
     exact fin
    ·rw [if_neg c2] at fin
     repeat (first | (simp (maxSteps:=9^7) only [seval,evB,Zcp,c1',c2,c3',wp,wp2,wo,wu,wv2,wg,wl,wv1,i1,i2,l1,l2,l3 ]) | (simp (disch:=omega) only [dsB,ZdA]))
     exact fin
   ·have c3' : ¬ ((l * 4294967296 + u : Nat) : Int) < ((g * v2 : Nat) : Int):=by omega
    have fin:=hend g l hgl ht hq (Or.inl ⟨by omega,by omega⟩)
    clear hend hdn ih hstep
    repeat (first | (simp (maxSteps:=9^7) only [seval,evB,Zcp,c1',c3',wp,wp2,wo,wu,wv2,i1,i2,l2,l3 ]) | (simp (disch:=omega) only [dsB,ZdA]))
    exact Post.some ⟨_,_,rfl,fin⟩
theorem Zxu {x y w : Nat} (hx : x < 4294967296) (hy : y < 4294967296) (hw : w≤1) : ∃ d z,d < 4294967296∧z≤1∧d + y + w = x + 4294967296 * z:=by
 by_cases h : y + w≤x
 ·exact ⟨x - y - w,0,by omega,by omega,by omega⟩
 ·exact ⟨x + 4294967296 - y - w,1,by omega,by omega,by omega⟩
theorem ZuW {x y w : Nat} (hx : x < 4294967296) (hy : y < 4294967296) (hw : w≤1) : ∃ d z,d < 4294967296∧z≤1∧d + 4294967296 * z = x + y + w :=
 ⟨(x + y + w) % 4294967296,(x + y + w) / 4294967296,by omega,by omega,by omega⟩
theorem ZqP (J : Al G T g) {h : Heap} {bu bv n q : Nat} {A C V V2 W0 : List Nat} (HU : Holds h bu (A ++ W0 ++ C)) (HV : Holds h bv (V ++ V2)) (hne : bv≠bu) (hV : V.length = n) (hs : n < 549755813888)
  (dV : Dg V) (hq : q < 4294967296) : ∀ (m i : Nat) (W : List Nat) (c w : Nat),m + i = n→W.length = n + 1→Dg W→c < 4294967296→w≤1→val W + q * val (V.take i) = val W0 + 4294967296 ^ i * (c + w) →
  Post (evL G T Zfb [(0,.own bu A.length (n + 1) 1),(1,.own bv 0 n 1),(5,.int .i64 (n : Int)),(7,.int .u64 (q : Int)),(9,.int .u32 (w : Int)),(10,.int .u64 (c : Int)),(81,.own bv 0 n 1),(82,.int .i64 (n : Int)),(83,.int .i64 (i : Int))] (put h bu (A ++ W ++ C))) fun r =>
   ∃ e W' c' w',r = (.exit 2,(0,.own bu A.length (n + 1) 1) :: (1,.own bv 0 n 1) :: (5,.int .i64 (n : Int)) :: (7,.int .u64 (q : Int)) :: (9,.int .u32 ((w' : Nat) : Int)) :: (10,.int .u64 ((c' : Nat) : Int)) :: e,put h bu (A ++ W' ++ C)) ∧
    W'.length = n + 1∧Dg W'∧c' < 4294967296∧w'≤1∧val W' + q * val V = val W0 + 4294967296 ^ n * (c' + w')
 | 0,i,W,c,w,hm,hW,dW,hc,hw,he => by
  rw [Zae G T (c:=Zfb) rfl]
  have h1 : ¬ (i : Int) < (n : Int):=by omega
  repeat (first | (simp (maxSteps:=9^7) only [seval,evB,ZhJ,h1]) | (simp (disch:=omega) only [dsB]))
  obtain rfl : i = n:=by omega
  rw [List.take_of_length_le (by omega)] at he
  exact Post.some ⟨_,_,_,_,rfl,hW,dW,hc,hw,he⟩
 | m + 1,i,W,c,w,hm,hW,dW,hc,hw,he => by
  rw [Zae G T (c:=Zfb) rfl]
  have h1 : (i : Int) < (n : Int):=by omega
  have e7 : (i : Int) + 1 = ((i + 1 : Nat) : Int):=by omega
  have hd:=dV.dg i
  have hx:=dW.dg i
  have HU':=HU.put (A ++ W ++ C)
  have HV':=HV.other (l:=A ++ W ++ C) hne
  have l1:=Zqd (G:=G) HV' (i:=i) (by omega)
  have l2:=ZmX (G:=G) HU' (i:=i) (by omega)
  have w1 : (dg V i : Int) % 18446744073709551616 = dg V i:=by omega
  have hp : q * dg V i≤4294967295 * 4294967295:=Nat.mul_le_mul (by omega) (by omega)
  have w2 : (q : Int) * (dg V i : Int) = ((q * dg V i : Nat) : Int):=by rw [Int.natCast_mul]
  have hv:=Zab (l:=V) (i:=i)
  generalize hpp : q * dg V i = p at *
  have w3 : (p : Int) % 18446744073709551616 = p:=by omega
  have w4 : ((c : Int) + (p : Int)) % 18446744073709551616 = ((c + p : Nat) : Int):=by omega
  have w5 : ((c + p : Nat) : Int) % 4294967296 = (((c + p) % 4294967296 : Nat) : Int):=by omega
  have w6 : ((c + p : Nat) : Int) / 4294967296 = (((c + p) / 4294967296 : Nat) : Int):=by omega
  have hy : (c + p) % 4294967296 < 4294967296:=Nat.mod_lt _ (by decide)
  have hc2 : (c + p) / 4294967296 < 4294967296:=by omega
  have hcp : c + p = (c + p) % 4294967296 + 4294967296 * ((c + p) / 4294967296):=by omega
  generalize (c + p) % 4294967296 = y at *
  generalize (c + p) / 4294967296 = c2 at *
  obtain ⟨d,z,hd1,hz,hdz⟩:=Zxu hx hy hw
  have call:=ZgX (G:=G) J hx hy hw hd1 hz hdz
  have st:=Zpv HU' (i:=i) (x:=d) (by omega)
  rw [ZiQ] at st
  repeat (first | (simp (maxSteps:=9^7) only [seval,evB,ZhJ,h1,e7,w1,w2,w3,w4,w5,w6,l1,l2,call,st ]) | (simp (disch:=omega) only [dsB,ZdA]))
  refine ZqP J HU HV hne hV hs dV hq m (i + 1) _ _ _ (by omega) (by rw [List.length_set]; exact hW) (Zeu dW hd1) hc2 hz ?_
  rw [hv]
  exact Zxx (ZlE d (by omega)) he hdz (by rw [hpp]; exact hcp)
theorem ZqO (J : Al G T g) {h : Heap} {bu bv n q : Nat} {A C V V2 W0 : List Nat} (HU : Holds h bu (A ++ W0 ++ C)) (HV : Holds h bv (V ++ V2)) (hne : bv≠bu) (hV : V.length = n) (hs : n < 549755813888)
  (dV : Dg V) : ∀ (m i : Nat) (W : List Nat) (w : Nat),m + i = n→W.length = n + 1→Dg W→w≤1→val W + 4294967296 ^ i * w = val W0 + val (V.take i)→dg W n = dg W0 n →
  Post (evL G T Zfa [(0,.own bu A.length (n + 1) 1),(5,.int .i64 (n : Int)),(7,.int .u64 (q : Int)),(13,.int .u32 (w : Int)),(129,.own bv 0 n 1),(130,.int .i64 (n : Int)),(131,.int .i64 (i : Int))] (put h bu (A ++ W ++ C))) fun r =>
   ∃ e W' w',r = (.exit 4,(0,.own bu A.length (n + 1) 1) :: (5,.int .i64 (n : Int)) :: (7,.int .u64 (q : Int)) :: (13,.int .u32 ((w' : Nat) : Int)) :: e,put h bu (A ++ W' ++ C)) ∧
    W'.length = n + 1∧Dg W'∧w'≤1∧val W' + 4294967296 ^ n * w' = val W0 + val V∧dg W' n = dg W0 n
 | 0,i,W,w,hm,hW,dW,hw,he,hn => by
  rw [Zae G T (c:=Zfa) rfl]
  have h1 : ¬ (i : Int) < (n : Int):=by omega
  repeat (first | (simp (maxSteps:=9^7) only [seval,evB,ZhI,h1]) | (simp (disch:=omega) only [dsB]))
  obtain rfl : i = n:=by omega
  rw [List.take_of_length_le (by omega)] at he
  exact Post.some ⟨_,_,_,rfl,hW,dW,hw,he,hn⟩
 | m + 1,i,W,w,hm,hW,dW,hw,he,hn => by
  rw [Zae G T (c:=Zfa) rfl]
  have h1 : (i : Int) < (n : Int):=by omega
  have e7 : (i : Int) + 1 = ((i + 1 : Nat) : Int):=by omega
  have hd:=dV.dg i
  have hx:=dW.dg i
  have HU':=HU.put (A ++ W ++ C)
  have HV':=HV.other (l:=A ++ W ++ C) hne
  have l1:=Zqd (G:=G) HV' (i:=i) (by omega)
  have l2:=ZmX (G:=G) HU' (i:=i) (by omega)
  obtain ⟨d,z,hd1,hz,hdz⟩:=ZuW hx hd hw
  have call:=ZgW (G:=G) J hx hd hw hd1 hz hdz
  have st:=Zpv HU' (i:=i) (x:=d) (by omega)
  rw [ZiQ] at st
  repeat (first | (simp (maxSteps:=9^7) only [seval,evB,ZhI,h1,e7,l1,l2,call,st ]) | (simp (disch:=omega) only [dsB,ZdA]))
  refine ZqO J HU HV hne hV hs dV m (i + 1) _ _ (by omega) (by rw [List.length_set]; exact hW) (Zeu dW hd1) hz ?_ (by rw [ZmD (by omega)]; exact hn)
  rw [Zab]
  exact Zva (ZlE d (by omega)) he hdz
theorem Zxs {X Y g w : Nat} (h0 : 0 < Y) (he : w + g * Y = X) (hq : X / Y≤g) : g = X / Y∧w = X % Y:=by
 have h1 : g≤X / Y:=by rw [Nat.le_div_iff_mul_le h0]; omega
 obtain rfl : g = X / Y:=by omega
 have:=Nat.div_add_mod X Y
 rw [Nat.mul_comm] at this
 exact ⟨rfl,by omega⟩
theorem Zxt {X Y g w w4 k B : Nat} (h0 : 0 < Y) (hB : Y≤B) (he : w + g * Y = X + B) (hw : w < B) (hq : g≤X / Y + 1) (h4 : w4 + B * k = w + Y) (hw4 : w4 < B) : g = X / Y + 1∧w4 = X % Y:=by
 have h1 : X / Y < g:=Nat.div_lt_of_lt_mul (by rw [Nat.mul_comm]; omega)
 obtain rfl : g = X / Y + 1:=by omega
 have h2:=Nat.div_add_mod X Y
 have h3:=Nat.mod_lt X h0
 rw [Nat.add_mul,Nat.one_mul,Nat.mul_comm] at he
 refine ⟨rfl,?_⟩
 rcases k with _ | _ | k
 ·rw [Nat.mul_zero] at h4; omega
 ·omega
 ·have : B * (k + 1 + 1) = B * k + B + B:=by rw [Nat.mul_add,Nat.mul_add,Nat.mul_one]
  omega
theorem ZCo {V : List Nat} {n : Nat} (hV : V.length = n + 2) : val V = val (V.take n) + 4294967296 ^ n * (dg V (n + 1) * 4294967296 + dg V n):=by
 have e1:=Zab (l:=V) (i:=n)
 have e2:=Zab (l:=V) (i:=n + 1)
 rw [List.take_of_length_le (by omega)] at e2
 rw [e2,e1,Nat.pow_succ,Nat.mul_add,Nat.mul_assoc,Nat.mul_comm 4294967296 (dg V (n + 1))]; omega
theorem ZxB {W : List Nat} {n : Nat} (hW : W.length = n + 3) : val W = val (W.take n) + 4294967296 ^ n * ((dg W (n + 2) * 4294967296 + dg W (n + 1)) * 4294967296 + dg W n):=by
 have e1:=Zab (l:=W) (i:=n)
 have e2:=Zab (l:=W) (i:=n + 1)
 have e3:=Zab (l:=W) (i:=n + 2)
 rw [List.take_of_length_le (by omega)] at e3
 rw [e3,e2,e1,Nat.pow_succ (m:=n + 1),Nat.pow_succ (m:=n)]
 generalize 4294967296 ^ n = p
 generalize dg W n = a
 generalize dg W (n + 1) = b
 generalize dg W (n + 2) = c
 have h1 : p * 4294967296 * b = 4294967296 * (p * b):=by rw [Nat.mul_comm p,Nat.mul_assoc]
 have h2 : p * 4294967296 * 4294967296 * c = 4294967296 * 4294967296 * (p * c):=by rw [Nat.mul_assoc p,Nat.mul_comm p,Nat.mul_assoc]
 have h3 : p * ((c * 4294967296 + b) * 4294967296 + a) = 4294967296 * 4294967296 * (p * c) + 4294967296 * (p * b) + p * a:=by
  rw [Nat.mul_add,← Nat.mul_assoc,Nat.mul_add,← Nat.mul_assoc]; omega
 rw [h1,h2,h3]; omega
theorem ZDC {b t v u2 v2 : Nat} (h : t * b + u2 < b * (v + v2 + 1)) (h2 : v2 < b) : t < v + b:=by
 have h3 : b * t < b * (v + v2 + 1):=by rw [Nat.mul_comm]; exact Nat.lt_of_le_of_lt (Nat.le_add_right _ _) h
 have:=Nat.lt_of_mul_lt_mul_left h3
 omega
structure StepPre (W V : List Nat) (n : Nat) : Prop where
 hn : 2≤n
 hs : n < 17179869184
 hW : W.length = n + 1
 hV : V.length = n
 dW : Dg W
 dV : Dg V
 top : 2147483648≤dg V (n - 1)
 lt : val W < 4294967296 * val V
theorem ZuB {W V : List Nat} {n : Nat} (p : StepPre W V n) : ∃ P,0 < P∧(dg V (n - 1) * 4294967296 + dg V (n - 2)) * P≤val V∧val V≤(dg V (n - 1) * 4294967296 + dg V (n - 2) + 1) * P ∧
  ((dg W n * 4294967296 + dg W (n - 1)) * 4294967296 + dg W (n - 2)) * P≤val W∧val W < ((dg W n * 4294967296 + dg W (n - 1)) * 4294967296 + dg W (n - 2) + 1) * P ∧
  dg W n * 4294967296 + dg W (n - 1) < dg V (n - 1) * 4294967296 + 4294967296∧val W / val V≤(dg W n * 4294967296 + dg W (n - 1)) / dg V (n - 1)∧0 < val V:=by
 obtain ⟨hn,hs,hW,hV,dW,dV,top,lt⟩:=p
 obtain ⟨k,rfl⟩ : ∃ k,n = k + 2:=⟨n - 2,by omega⟩
 have e1:=ZCo hV
 have e2:=ZxB hW
 have t1:=ZdE (dV.take k)
 have t2:=ZdE (dW.take k)
 rw [List.length_take,Nat.min_eq_left (by omega)] at t1 t2
 simp only [Nat.add_sub_cancel,show k + 2 - 1 = k + 1 from rfl] at *
 have b1:=dV.dg k
 have b2:=dW.dg k
 have b3:=dW.dg (k + 1)
 generalize 4294967296 ^ k = P at *
 generalize val (V.take k) = lo at *
 generalize val (W.take k) = lo2 at *
 generalize dg V (k + 1) = v1 at *
 generalize dg V k = v2 at *
 generalize dg W (k + 2) = u0 at *
 generalize dg W (k + 1) = u1 at *
 generalize dg W k = u2 at *
 rw [Nat.mul_comm] at e1 e2
 have c1 : (v1 * 4294967296 + v2) * P≤val V:=by rw [e1]; exact Nat.le_add_left _ _
 have c2 : val V < (v1 * 4294967296 + v2 + 1) * P:=by rw [e1,Nat.add_mul _ 1,Nat.one_mul]; omega
 have c3 : ((u0 * 4294967296 + u1) * 4294967296 + u2) * P≤val W:=by rw [e2]; exact Nat.le_add_left _ _
 have c4 : val W < ((u0 * 4294967296 + u1) * 4294967296 + u2 + 1) * P:=by rw [e2,Nat.add_mul _ 1,Nat.one_mul]; omega
 have hP : 0 < P:=by omega
 have hY : 0 < val V:=Nat.lt_of_lt_of_le (Nat.mul_pos (by omega) hP) c1
 refine ⟨P,hP,c1,Nat.le_of_lt c2,c3,c4,?_,?_,hY⟩
 ·have h1 : ((u0 * 4294967296 + u1) * 4294967296 + u2) * P < (4294967296 * (v1 * 4294967296 + v2 + 1)) * P:=by
   calc _≤val W:=c3
    _ < 4294967296 * val V:=lt
    _≤4294967296 * ((v1 * 4294967296 + v2 + 1) * P):=Nat.mul_le_mul_left _ (Nat.le_of_lt c2)
    _ = _:=by rw [Nat.mul_assoc]
  exact ZDC (Nat.lt_of_mul_lt_mul_right h1) b1
 ·refine Zrl (P:=P) (g:=0) (l:=0) (Q:=4294967296 * P) ?_ ?_ (by omega)
  ·refine Nat.le_trans ?_ c1
   rw [← Nat.mul_assoc]; exact Nat.mul_le_mul_right _ (by omega)
  ·refine Nat.lt_of_lt_of_le c4 ?_
   rw [← Nat.mul_assoc]; exact Nat.mul_le_mul_right _ (by omega)
theorem Ztf {h : Heap} {b : Nat} {l : List Nat} (H : Holds h b l) : put h b l = h:=by
 have:=H.at_
 cases h with
 | mk bs fs =>
  simp only [put] at *
  congr 1
  apply List.ext_getElem?
  intro i
  by_cases hi : b = i
  ·subst hi
   rw [List.getElem?_set_self (by have:=(List.getElem?_eq_some_iff.1 this).1; exact this),this]
  ·rw [List.getElem?_set_ne hi]
theorem ZrI {W V : List Nat} {n : Nat} (p : StepPre W V n) : ∃ P t,t = dg W n * 4294967296 + dg W (n - 1)∧0 < P∧(dg V (n - 1) * 4294967296 + dg V (n - 2)) * P≤val V∧val V≤(dg V (n - 1) * 4294967296 + dg V (n - 2) + 1) * P ∧
  (t * 4294967296 + dg W (n - 2)) * P≤val W∧val W < (t * 4294967296 + dg W (n - 2) + 1) * P ∧
  t < dg V (n - 1) * 4294967296 + 4294967296∧val W / val V≤t / dg V (n - 1)∧0 < val V:=by
 obtain ⟨P,h⟩:=ZuB p
 exact ⟨P,_,rfl,h⟩
theorem ZoX (J : Al G T g) {h : Heap} {bu bv n : Nat} {A C V V2 W : List Nat} (HU : Holds h bu (A ++ W ++ C)) (HV : Holds h bv (V ++ V2)) (hne : bv≠bu) (p : StepPre W V n) :
  ∃ W',kJ G ZdJ.res (evL G T ZdJ.body (numE 0 [.own bu A.length (n + 1) 1,.own bv 0 n 1]) h) = some (.int .u32 ((val W / val V : Nat) : Int),put h bu (A ++ W' ++ C))∧W'.length = n + 1∧Dg W'∧val W' = val W % val V:=by
 obtain ⟨P,t,hte,hP,f1,f2,f3,f4,f5,f6,f7⟩:=ZrI p
 obtain ⟨hn,hs,hW,hV,dW,dV,top,lt⟩:=p
 have x0:=dW.dg n
 have x1:=dW.dg (n - 1)
 have y1:=dV.dg (n - 1)
 have ht : t < 18446744073709551616:=by omega
 have hmod:=Nat.mod_lt t (y:=dg V (n - 1)) (by omega)
 have hdm:=Nat.div_add_mod t (dg V (n - 1))
 rw [Nat.mul_comm] at hdm
 obtain ⟨_,hr,e,q',rfl,hq1,hq2,hq3⟩:=ZuC (G:=G) (T:=T) (t:=t) HU HV hW hV hn (by omega) dV dW rfl rfl rfl f7 f1 f2 f3 f4 lt (by omega) f5 ht _ _ (by omega) hdm f6
 obtain ⟨_,hr2,e2,W1,c,w,rfl,hW1,dW1,hc,hw,hv1⟩:=ZqP (G:=G) J HU HV hne hV (by omega) dV hq1 n 0 W 0 0 (by omega) hW dW (by decide) (by decide) (by simp [val])
 rw [Ztf HU,cast0] at hr2
 have HU1:=HU.put (A ++ W1 ++ C)
 have l0:=ZmX (G:=G) HU (i:=n) (by omega)
 have l1:=ZmX (G:=G) HU (i:=n - 1) (by omega)
 have l2:=Zqd (G:=G) HV (i:=n - 1) (by omega)
 have l3:=ZmX (G:=G) HU1 (i:=n) (by omega)
 have i1 : (n : Int) - 1 = ((n - 1 : Nat) : Int):=by omega
 have w0 : (dg W n : Int) % 18446744073709551616 = dg W n:=by omega
 have w1 : (dg W (n - 1) : Int) % 18446744073709551616 = dg W (n - 1):=by omega
 have w2:=Zpn x0 x1
 rw [← hte] at w2
 have w3 : (dg V (n - 1) : Int) % 18446744073709551616 = dg V (n - 1):=by omega
 have h2 : ¬ (dg V (n - 1) : Int) = 0:=by omega
 have hbig : t / dg V (n - 1) < 18446744073709551616:=Nat.lt_of_le_of_lt (Nat.div_le_self _ _) ht
 have w4 : (t : Int).tdiv (dg V (n - 1) : Int) = ((t / dg V (n - 1) : Nat) : Int):=rfl
 have w5 : (t : Int).tmod (dg V (n - 1) : Int) = ((t % dg V (n - 1) : Nat) : Int):=rfl
 generalize t / dg V (n - 1) = tq at *
 generalize t % dg V (n - 1) = tm at *
 have w6 : (tq : Int) % 18446744073709551616 = tq:=by omega
 have w7 : (c : Int) % 4294967296 = c:=by omega
 obtain ⟨d,z,hd,hz,hdz⟩:=Zxu (dW1.dg n) hc hw
 have call:=ZgX (G:=G) J (dW1.dg n) hc hw hd hz hdz
 have st:=Zpv HU1 (i:=n) (x:=d) (by omega)
 rw [ZiQ] at st
 have hset:=ZlE (l:=W1) (j:=n) d (by omega)
 have hlen2 : (W1.set n d).length = n + 1:=by rw [List.length_set]; exact hW1
 have dW2:=Zeu (i:=n) dW1 hd
 have hlt2:=ZdE dW2
 rw [hlen2] at hlt2
 have key : val (W1.set n d) + q' * val V = val W + 4294967296 ^ (n + 1) * z:=by
  rw [Nat.pow_succ,Nat.mul_assoc]
  have h1 : 4294967296 ^ n * d + 4294967296 ^ n * c + 4294967296 ^ n * w = 4294967296 ^ n * dg W1 n + 4294967296 ^ n * (4294967296 * z):=by rw [← Nat.mul_add,← Nat.mul_add,hdz,Nat.mul_add]
  rw [Nat.mul_add] at hv1
  generalize 4294967296 ^ n * (4294967296 * z) = a1 at *
  generalize 4294967296 ^ n * d = a2 at *
  generalize 4294967296 ^ n * c = a3 at *
  generalize 4294967296 ^ n * w = a4 at *
  generalize 4294967296 ^ n * dg W1 n = a5 at *
  generalize q' * val V = a6 at *
  omega
 by_cases hz0 : z = 0
 ·subst hz0
  rw [Nat.mul_zero,Nat.add_zero] at key
  obtain ⟨k1,k2⟩:=Zxs f7 key hq2
  refine ⟨W1.set n d,?_,hlen2,dW2,k2⟩
  rw [← k1]
  rw [cast0] at call
  have w8 : (q' : Int) % 4294967296 = q':=by omega
  clear key k1 k2 hset hdm hlt2 f1 f2 f3 f4 f5 f6 hv1 lt hq2 hq3
  repeat (first | (simp (maxSteps:=9^7) only [seval,evB,ZdJ,l0,l1,l2,l3,i1,w0,w1,w2,w3,w4,w5,w6,w7,w8,h2,hr,hr2,call,st ]) | (simp (disch:=omega) only [dsB,ZdA]))
 ·obtain rfl : z = 1:=by omega
  rw [Nat.mul_one] at key
  have HU2:=HU.put (A ++ W1.set n d ++ C)
  have HV2:=HV.other (l:=A ++ W1.set n d ++ C) hne
  obtain ⟨_,hr3,e3,W3,w',rfl,hW3,dW3,hw3,hv3,hn3⟩:=ZqO (G:=G) (q:=q') J HU2 HV2 hne hV (by omega) dV n 0 (W1.set n d) 0 (by omega) hlen2 dW2 (by decide) (by simp [val]) rfl
  rw [ZiQ,ZiQ,cast0] at hr3
  have HU3:=HU.put (A ++ W3 ++ C)
  have l4:=ZmX (G:=G) HU3 (i:=n) (by omega)
  have x3:=dW3.dg n
  have w9 : ((dg W3 n : Int) + w') % 4294967296 = (((dg W3 n + w') % 4294967296 : Nat) : Int):=by omega
  have hdd : dg W3 n + w' = (dg W3 n + w') % 4294967296 + 4294967296 * ((dg W3 n + w') / 4294967296):=by omega
  have hd3 : (dg W3 n + w') % 4294967296 < 4294967296:=Nat.mod_lt _ (by decide)
  generalize (dg W3 n + w') % 4294967296 = d3 at *
  generalize (dg W3 n + w') / 4294967296 = k3 at *
  have st3:=Zpv HU3 (i:=n) (x:=d3) (by omega)
  rw [ZiQ] at st3
  have hset3:=ZlE (l:=W3) (j:=n) d3 (by omega)
  have hlen4 : (W3.set n d3).length = n + 1:=by rw [List.length_set]; exact hW3
  have dW4:=Zeu (i:=n) dW3 hd3
  have hlt4:=ZdE dW4
  rw [hlen4] at hlt4
  have key4 : val (W3.set n d3) + 4294967296 ^ (n + 1) * k3 = val (W1.set n d) + val V:=by
   rw [Nat.pow_succ,Nat.mul_assoc]
   have h1 : 4294967296 ^ n * dg W3 n + 4294967296 ^ n * w' = 4294967296 ^ n * d3 + 4294967296 ^ n * (4294967296 * k3):=by rw [← Nat.mul_add,← Nat.mul_add,hdd]
   generalize 4294967296 ^ n * (4294967296 * k3) = a1 at *
   generalize 4294967296 ^ n * d3 = a2 at *
   generalize 4294967296 ^ n * w' = a3 at *
   generalize 4294967296 ^ n * dg W3 n = a4 at *
   omega
  have hYB : val V≤4294967296 ^ (n + 1):=by
   have h1:=ZdE dV
   rw [hV] at h1
   exact Nat.le_of_lt (Nat.lt_of_lt_of_le h1 (Nat.pow_le_pow_right (by decide) (Nat.le_succ n)))
  obtain ⟨k1,k2⟩:=Zxt f7 hYB key hlt2 hq3 key4 hlt4
  refine ⟨W3.set n d3,?_,hlen4,dW4,k2⟩
  have hq : val W / val V = q' - 1:=by rw [k1,Nat.add_sub_cancel]
  have hq0 : 1≤q':=by rw [k1]; exact Nat.le_add_left 1 _
  rw [hq]
  rw [show ((1 : Nat) : Int) = 1 from rfl] at call
  have w8 : ((q' : Int) - 1) % 18446744073709551616 = ((q' - 1 : Nat) : Int):=by omega
  have w10 : ((q' - 1 : Nat) : Int) % 4294967296 = ((q' - 1 : Nat) : Int):=by omega
  clear key k1 k2 hset hdm hlt2 f1 f2 f3 f4 f5 f6 hv1 lt hq2 hq3 key4 hset3 hYB hdd hv3 hlt4 hq
  repeat (first | (simp (maxSteps:=9^7) only [seval,evB,ZdJ,l0,l1,l2,l3,l4,i1,w0,w1,w2,w3,w4,w5,w6,w7,w8,w9,w10,h2,hr,hr2,hr3,call,st,st3 ]) | (simp (disch:=omega) only [dsB,ZdA]))
def KeepsAll (h0 h : Heap) (v : AV) : Prop:=∀ bv lv,Holds h0 bv lv→Holds h bv lv∧∀ b o n s,v = .own b o n s→b≠bv
theorem Zmv {h0 h : Heap} {v : AV} {l : List Nat} (B : Bld h v l) (K : KeepsAll h0 h v) {w : Int} (hw : 0≤w) (hl : l.length < 1099511627776) :
  KeepsAll h0 (appH h v w) (.own (h.b.length + 1) 0 (l.length + 1) 1):=by
 intro bv lv H0
 obtain ⟨HH,hne⟩:=K bv lv H0
 obtain ⟨hf,hB⟩:=B
 have e0 : sliceCells (Heap.mem ⟨h.b ++ [⟨[.int .u32 w],false⟩],h.f⟩) 1 (.own h.b.length 0 1 1) = some (1,cells [w.toNat]):=by
  have : (Heap.mem ⟨h.b ++ [⟨[.int .u32 w],false⟩],h.f⟩) h.b.length = some ⟨cells [w.toNat],false⟩:=by
   simp [Heap.mem,cells,Int.toNat_of_nonneg hw]
  simp [sliceCells,rdBlk,this,cells]
 have key : ∃ h',appV ⟨h.b ++ [⟨[.int .u32 w],false⟩],h.f⟩ 1 4 v (.own h.b.length 0 1 1) = some (.own (h.b.length + 1) 0 (l.length + 1) 1,h') ∧
   h'.f = h.f∧h'.b[bv]? = h.b[bv]?:=by
  rcases hB with ⟨rfl,rfl⟩ | ⟨b,l2,rfl,H⟩
  ·refine ⟨⟨(h.b ++ [⟨[.int .u32 w],false⟩]) ++ [⟨cells [w.toNat],false⟩],h.f⟩,?_,rfl,?_⟩
   ·simp only [appV,e0,Nat.succ_ne_zero,if_false]
    rw [if_pos (by decide)]
    simp
   ·show (h.b ++ _ ++ _)[bv]? = _
    rw [List.getElem?_append_left (by simp only [List.length_append]; have:=HH.lt; omega),List.getElem?_append_left HH.lt]
  ·refine ⟨⟨(h.b ++ [(⟨[.int .u32 w],false⟩ : Blk)]).set b ⟨cells (l ++ l2),true⟩ ++ [⟨cells (l ++ [w.toNat]),false⟩],h.f⟩,?_,rfl,?_⟩
   ·simp only [appV,e0]
    rw [List.getElem?_append_left H.lt,H.at_]
    simp only
    rw [if_pos ⟨trivial,trivial,H.fre,by rw [ZaX,List.length_append]; omega,by simp only [boundApp]; omega⟩]
    simp only [List.length_append,List.length_cons,List.length_nil,List.drop_zero,Nat.mul_one]
    rw [Zfw,List.take_left' rfl,ZpL,Nat.zero_add]
   ·have hb : b≠bv:=hne _ _ _ _ rfl
    show ((h.b ++ _).set b _ ++ _)[bv]? = _
    rw [List.getElem?_append_left (by rw [List.length_set,List.length_append]; have:=HH.lt; omega),List.getElem?_set_ne hb,List.getElem?_append_left HH.lt]
 obtain ⟨h',k1,k2,k3⟩:=key
 have e : appH h v w = h':=by simp only [appH,k1,Option.getD_some]
 rw [e]
 refine ⟨⟨by rw [k3]; exact HH.at_,by rw [k2]; exact HH.fre⟩,?_⟩
 intro b o n s hv
 have:=HH.lt
 injection hv with hb
 omega
theorem ZtY {h0 : Heap} {a : List Nat} {z : Bool} {q s : Nat} (ha : Dg a) (hs : s < 32) (hb : q + a.length < 549755813888) : ∀ (m i : Nat) (h : Heap) (v : AV) (l : List Nat) (c : Nat),
  m + i = a.length→Bld h v l→KeepsAll h0 h v→Dg l→l.length = q + i→c < 2 ^ s→val l + 4294967296 ^ (q + i) * c = 4294967296 ^ q * 2 ^ s * val (a.take i) →
  Post (evL G T ZcO [(5,v),(6,.int .i64 (s : Int)),(7,.int .u32 (c : Int)),(24,D z a),(25,.int .i64 ((a.length : Nat) : Int)),(26,.int .i64 (i : Int))] h) fun r =>
   ∃ e h' v' l',∃ c' : Nat,r = (.exit 0,(5,v') :: (6,.int .i64 (s : Int)) :: (7,.int .u32 (c' : Int)) :: e,h')∧Bld h' v' l'∧KeepsAll h0 h' v'∧Dg l'∧l'.length = q + a.length∧c' < 2 ^ s∧val (l' ++ [c']) = 4294967296 ^ q * 2 ^ s * val a
 | 0,i,h,v,l,c,hm,B,K,hd,hl,hc,he => by
  rw [Zae G T (c:=ZcO) rfl]
  have h1 : ¬ (i : Int) < a.length:=by omega
  repeat (first | (simp (maxSteps:=9^7) only [seval,evB,ZfG,h1]) | (simp (disch:=omega) only [dsB]))
  refine Post.some ⟨_,_,_,_,_,rfl,B,K,hd,by omega,hc,?_⟩
  rw [List.take_of_length_le (by omega)] at he
  rw [ZcN,hl,he]
 | m + 1,i,h,v,l,c,hm,B,K,hd,hl,hc,he => by
  rw [Zae G T (c:=ZcO) rfl]
  have ha':=ha.dg i
  have e7 : (i : Int) + 1 = ((i + 1 : Nat) : Int):=by omega
  have h1 : (i : Int) < a.length:=by omega
  have hk:=Zor hc ha'
  have hp : (2 : Nat) ^ s≤2 ^ 31:=Nat.pow_le_pow_right (by decide) (by omega)
  have w1 : (dg a i : Int) % 18446744073709551616 = dg a i:=by omega
  have w2 : min s 32 = s:=by omega
  have w3 : (dg a i : Int) * 2 ^ s % 4294967296 = ((dg a i * 2 ^ s % 4294967296 : Nat) : Int):=by
   rw [ZaS,← Int.natCast_mul]; omega
  have w4 : orI .u32 ((dg a i * 2 ^ s % 4294967296 : Nat) : Int) (c : Int) = ((c + dg a i * 2 ^ s % 4294967296 : Nat) : Int):=by
   rw [or32 (by omega) (by omega),Nat.or_comm,Zpo (by omega),ZkI hc]
  have w5 : (32 - (s : Int)) = ((32 - s : Nat) : Int):=by omega
  have w6 : min (32 - s) 64 = 32 - s:=by omega
  have w7 : (dg a i : Int) / 2 ^ (32 - s) = ((dg a i / 2 ^ (32 - s) : Nat) : Int):=by rw [ZaS]; rfl
  have hsm : dg a i * 2 ^ s % 4294967296 + c < 4294967296:=by
   have e0:=Zpo (x:=dg a i) (s:=s) (by omega)
   have e1 : dg a i % 2 ^ (32 - s) < 2 ^ (32 - s):=Nat.mod_lt _ (Nat.two_pow_pos _)
   have e2 : (dg a i % 2 ^ (32 - s) + 1) * 2 ^ s≤2 ^ (32 - s) * 2 ^ s:=Nat.mul_le_mul_right _ e1
   rw [← Nat.pow_add,show 32 - s + s = 32 by omega,Nat.add_mul] at e2
   omega
  have hcd : (dg a i * 2 ^ s % 4294967296 + c) + 4294967296 * (dg a i * 2 ^ s / 4294967296) = c + dg a i * 2 ^ s:=by omega
  have hcl : dg a i * 2 ^ s / 4294967296 < 2 ^ s:=by
   refine Nat.lt_of_le_of_lt ?_ hk
   exact Nat.div_le_div_right (by omega)
  have w8 : ((dg a i / 2 ^ (32 - s) : Nat) : Int) % 4294967296 = ((dg a i * 2 ^ s / 4294967296 : Nat) : Int):=by
   rw [ZqH (by omega)]; omega
  repeat (first | (simp (maxSteps:=9^7) only [seval,evB,ZfG,h1,w1,w2,w3,w4,w5,w6,w7,w8 ]) | (simp (disch:=omega) only [dsB,ZjI B]))
  rw [e7]
  refine ZtY ha hs hb m (i + 1) _ _ _ _ (by omega) (Zcy B (by omega) (by omega)).2 (Zmv B K (by omega) (by omega)) (ZbE hd (by omega)) (by rw [List.length_append,hl]; rfl) hcl ?_
  rw [Zab]
  refine ZrL (j:=q + i) (q:=q) (i:=i) hl rfl he ?_
  rw [Int.toNat_natCast,Nat.add_comm c]; exact hcd
theorem ZsU (J : Al G T g) {h : Heap} (hf : FreH h) {z : Bool} {a n : Nat} (ha : a≠0) (hs : (dl a).length < 137438953472) (hn : n < 1099511627776) :
  ∃ b l2 h',kJ G Zgn.res (evL G T Zgn.body (numE 0 [D z (dl a),.int .i64 (n : Int)]) h) = some (.own b 0 (dl (a * 2 ^ n)).length 1,h')∧Holds h' b (dl (a * 2 ^ n) ++ l2)∧Dg l2∧FreH h'∧KeepsAll h h' (.own b 0 (dl (a * 2 ^ n)).length 1):=by
 have h0 : ¬ ((dl a).length : Int) = 0:=by
  intro hc
  exact ha (ZeE.1 (List.length_eq_zero_iff.1 (by omega)))
 have hnm : n / 32≤n / 32 + (dl a).length + 1:=by omega
 have K0 : KeepsAll h (new h (List.replicate (n / 32 + (dl a).length + 1) 0)) (.own h.b.length 0 (n / 32) 1):=fun bv lv H => ⟨H.new,fun b o n s hv => by have:=H.lt; injection hv with hb; omega⟩
 obtain ⟨r,hr,e,h',v',l',c',rfl,B,K,hd,hl,hc,hv⟩:=ZtY (G:=G) (T:=T) (z:=z) (q:=n / 32) (s:=n % 32) (Zas a) (by omega) (by omega) (dl a).length 0 _ _ _ 0 rfl (ZrN hf (n / 32) _ hnm) K0 (Ziu _) (by simp) (Nat.two_pow_pos _) (by simp [ZrM,val])
 rw [cast0] at hr
 have hp : c' < 4294967296:=by
  have : (2 : Nat) ^ (n % 32)≤2 ^ 31:=Nat.pow_le_pow_right (by decide) (by omega)
  omega
 have m1 : (((n / 32 : Nat) : Int) + ((dl a).length : Nat) + 1).toNat = n / 32 + (dl a).length + 1:=by omega
 obtain ⟨hap,HB,B2⟩:=Zkj B (w:=(c' : Int)) (by omega) (by omega)
 have K2:=Zmv B K (w:=(c' : Int)) (by omega) (by omega)
 rw [Int.toNat_natCast] at HB
 have hd2:=ZbE hd hp
 have hlen : (l' ++ [c']).length = l'.length + 1:=by rw [List.length_append]; rfl
 obtain ⟨n',e',ht,hn',htk⟩:=Zpw (G:=G) (T:=T) HB hd2 (by omega) (l'.length + 1) (by omega)
 rw [← hlen,List.take_length,hv,ZaI,pow32,← Nat.pow_add,show 32 * (n / 32) + n % 32 = n by omega,Nat.mul_comm] at htk
 have hn2 : n' = (dl (a * 2 ^ n)).length:=by rw [← htk,List.length_take]; omega
 subst hn2
 have hw1 : IntKind.i64.wrap ((n / 32 : Nat) : Int) = ((n / 32 : Nat) : Int):=Zad (by omega)
 refine ⟨h'.b.length + 1,(l' ++ [c']).drop (dl (a * 2 ^ n)).length,appH h' v' c',?_,?_,hd2.drop _,B2.1,?_⟩
 ·repeat (first | (simp (maxSteps:=9^7) only [seval,evB,Zgn,h0,hw1,m1,hr,hap,Zla G T J.A.Zbr,Zfu,ht]) | (simp (disch:=omega) only [dsB]))
 ·rw [← htk,List.length_take,Nat.min_eq_left hn',List.take_append_drop]; exact HB
 ·intro bv lv H
  obtain ⟨k1,k2⟩:=K2 bv lv H
  exact ⟨k1,fun b o n s hv => by injection hv with hb; subst hb; exact k2 _ _ _ _ rfl⟩
theorem ZEd {h : Heap} {b n : Nat} {l : List Nat} (H : Holds h b l) (hn : n≤l.length) {lo hi : Nat} (h1 : lo≤hi∧hi≤n∧lo < n) :
  evSlice h.mem 1 (.own b 0 n 1) (some (.int .i64 (lo : Int))) (some (.int .i64 (hi : Int))) = some (.own b lo (hi - lo) 1):=by
 simp only [evSlice,lenA,capA,bound,H.mem,Bool.false_eq_true,if_false,Nat.succ_ne_zero,ZaX]
 rw [if_pos (by refine ⟨by omega,by omega,?_⟩; omega),if_pos ⟨trivial,Or.inr (by omega)⟩]
 have e0 : ((hi : Int) - (lo : Int)).toNat = hi - lo:=by omega
 rw [e0,Int.toNat_natCast,Nat.mul_one,Nat.zero_add]
theorem Zyq {n j N : Nat} {U0 R V : List Nat} (hn : 2≤n) (hs : N < 17179869184) (hV : V.length = n) (dV : Dg V) (d0 : Dg U0) (dR : Dg R) (top : 2147483648≤dg V (n - 1)) (hU : U0.length = N) (hR : R.length = N - (j + 1)) (hj : j + 1 + n≤N) (hlt : val R < val V) :
  StepPre ((dg U0 j :: R).take (n + 1)) V n∧val ((dg U0 j :: R).take (n + 1)) = dg U0 j + 4294967296 * val R∧val ((dg U0 j :: R).drop (n + 1)) = 0:=by
 have dX : Dg (dg U0 j :: R):=ZdF.2 ⟨d0.dg j,dR⟩
 have hX : val (dg U0 j :: R) < 4294967296 * val V:=by
  rw [Zaw]; have:=d0.dg j; omega
 have hVb:=ZdE dV
 rw [hV] at hVb
 have hB : val (dg U0 j :: R) < 4294967296 ^ (n + 1):=by
  rw [Nat.pow_succ,Nat.mul_comm]
  exact Nat.lt_of_lt_of_le hX (Nat.mul_le_mul_left _ (Nat.le_of_lt hVb))
 have e1:=ZtZ dX (n + 1)
 have e2:=Zmo dX (n + 1)
 rw [Nat.mod_eq_of_lt hB] at e1
 rw [Nat.div_eq_of_lt hB] at e2
 refine ⟨⟨hn,by omega,?_,hV,dX.take _,dV,top,by rw [e1]; exact hX⟩,by rw [e1,Zaw],e2⟩
 rw [List.length_take,List.length_cons]; omega
theorem Zwp {U0 Q V : List Nat} {j q r X R : Nat} (hj : j < U0.length) (hq : j < Q.length) (h : val (U0.drop (j + 1)) = val (Q.drop (j + 1)) * val V + R) (hX : X = dg U0 j + 4294967296 * R) :
  val (U0.drop j) = val ((Q.set j (X / val V)).drop j) * val V + X % val V:=by
 rw [Zdy hj,Zsq hq,Zaw,Zaw,h]
 have h2:=Nat.div_add_mod X (val V)
 generalize X / val V = a at *
 generalize X % val V = b at *
 rw [Nat.mul_add,Nat.add_mul,Nat.mul_assoc,Nat.mul_comm a]
 generalize val (Q.drop (j + 1)) * val V = c at *
 omega
theorem Zqe (J : Al G T g) {bu bv bq n N m : Nat} {U0 C V V2 : List Nat} {s : AV} (h1 : bv≠bu) (h2 : bq≠bu) (h3 : bv≠bq) (hn : 2≤n) (hs : N < 17179869184) (hV : V.length = n) (dV : Dg V) (d0 : Dg U0) (top : 2147483648≤dg V (n - 1)) (hU : U0.length = N) (hm : N = m + n) :
  ∀ (j : Nat) (h : Heap) (R Q : List Nat),j≤m→Holds h bu (U0.take j ++ R ++ C)→Holds h bv (V ++ V2)→Holds h bq Q→Dg R→R.length = N - j→Dg Q→Q.length = m→val R < val V→val (U0.drop j) = val (Q.drop j) * val V + val R →
  Post (evL G T ZeZ [(6,s),(7,.own bv 0 n 1),(8,.own bu 0 N 1),(9,.int .i64 (n : Int)),(10,.own bq 0 m 1),(11,.int .i64 ((j : Int) - 1))] h) fun r =>
   ∃ e h' R' Q',r = (.exit 2,(6,s) :: (7,.own bv 0 n 1) :: (8,.own bu 0 N 1) :: (9,.int .i64 (n : Int)) :: (10,.own bq 0 m 1) :: e,h')∧Holds h' bu (R' ++ C)∧Holds h' bq Q'∧Dg R'∧R'.length = N∧Dg Q'∧Q'.length = m∧val R' < val V∧val U0 = val Q' * val V + val R'
 | 0,h,R,Q,hj,HU,HV,HQ,dR,hR,dQ,hQ,hlt,he => by
  rw [Zae G T (c:=ZeZ) rfl]
  have c1 : ¬ (0 : Int)≤((0 : Nat) : Int) - 1:=by omega
  repeat (first | (simp (maxSteps:=9^7) only [seval,evB,ZhG,c1]) | (simp (disch:=omega) only [dsB]))
  rw [List.take_zero,List.nil_append] at HU
  exact Post.some ⟨_,_,_,_,rfl,HU,HQ,dR,hR,dQ,hQ,hlt,he⟩
 | j + 1,h,R,Q,hj,HU,HV,HQ,dR,hR,dQ,hQ,hlt,he => by
  rw [Zae G T (c:=ZeZ) rfl]
  have e1 : ((j + 1 : Nat) : Int) - 1 = (j : Int):=by omega
  have c1 : (0 : Int)≤(j : Int):=by omega
  obtain ⟨p,v1,v2⟩:=Zyq (j:=j) (U0:=U0) (R:=R) (N:=N) hn hs hV dV d0 dR top hU hR (by omega) hlt
  have hls:=Zwp (U0:=U0) (Q:=Q) (V:=V) (j:=j) (q:=0) (r:=0) (by omega) (by omega) he v1
  have hlen : (dg U0 j :: R).length = N - j:=by rw [List.length_cons]; omega
  have dX : Dg (dg U0 j :: R):=ZdF.2 ⟨d0.dg j,dR⟩
  have hsp : U0.take (j + 1) ++ R ++ C = U0.take j ++ (dg U0 j :: R).take (n + 1) ++ ((dg U0 j :: R).drop (n + 1) ++ C):=by
   rw [Znz (by omega)]
   simp only [List.append_assoc,List.singleton_append]
   rw [← List.append_assoc (List.take (n + 1) _),List.take_append_drop,List.cons_append]
  have hcl : N≤(U0.take (j + 1) ++ R ++ C).length:=by
   simp only [List.length_append,List.length_take]; omega
  have sl:=ZEd HU hcl (lo:=j) (hi:=j + n + 1) ⟨by omega,by omega,by omega⟩
  rw [show j + n + 1 - j = n + 1 by omega] at sl
  have e2 : (j : Int) + (n : Int) + 1 = ((j + n + 1 : Nat) : Int):=by omega
  rw [hsp] at HU
  have htl : (U0.take j).length = j:=by rw [List.length_take]; omega
  obtain ⟨W',hst,hW',dW',hv'⟩:=ZoX (G:=G) J HU HV h1 p
  rw [htl] at hst
  simp only [ZkG,Zmf,Nat.reduceAdd,Nat.zero_add] at hst
  have hlt' : val W' < val V:=by rw [hv']; exact Nat.mod_lt _ (by have:=ZdE dV; omega)
  have HU':=HU.put (U0.take j ++ W' ++ ((dg U0 j :: R).drop (n + 1) ++ C))
  have HV':=HV.other (l:=U0.take j ++ W' ++ ((dg U0 j :: R).drop (n + 1) ++ C)) h1
  have HQ':=HQ.other (l:=U0.take j ++ W' ++ ((dg U0 j :: R).drop (n + 1) ++ C)) h2
  have st:=ZcS HQ' (i:=j) (x:=val (List.take (n + 1) (dg U0 j :: R)) / val V) (by omega)
  have hqd : val (List.take (n + 1) (dg U0 j :: R)) / val V < 4294967296:=ZpQ p.lt (Nat.le_refl _)
  have HU2:=HU'.other (l:=Q.set j (val (List.take (n + 1) (dg U0 j :: R)) / val V)) h2.symm
  have HV2:=HV'.other (l:=Q.set j (val (List.take (n + 1) (dg U0 j :: R)) / val V)) h3
  have HQ2:=HQ'.put (Q.set j (val (List.take (n + 1) (dg U0 j :: R)) / val V))
  rw [e1]
  repeat (first | (simp (maxSteps:=9^7) only [seval,evB,ZhG,c1,e2,sl,Zla G T J.A.ZoX,hst,st]) | (simp (disch:=omega) only [dsB]))
  have hR2 : val (W' ++ (dg U0 j :: R).drop (n + 1)) = val W':=by rw [ZnA,v2,Nat.mul_zero,Nat.add_zero]
  have hl : U0.take j ++ (W' ++ (dg U0 j :: R).drop (n + 1)) ++ C = U0.take j ++ W' ++ ((dg U0 j :: R).drop (n + 1) ++ C):=by simp only [List.append_assoc]
  refine Zqe J h1 h2 h3 hn hs hV dV d0 top hU hm j _ (W' ++ (dg U0 j :: R).drop (n + 1)) _ (by omega) (by rw [hl]; exact HU2) HV2 HQ2 (Zzb.2 ⟨dW',dX.drop _⟩) ?_ (Zeu dQ hqd) (by rw [List.length_set]; exact hQ) (by rw [hR2]; exact hlt') ?_
  ·rw [List.length_append,List.length_drop,hW',hlen]; omega
  ·rw [hR2,hv']; exact hls
end Go.Cv
