/-
 A part of the proof of the statements of this seat (texts that the law's own text leans on): no condition.
-/
import Derived.Test.YtnomgajekgfgaaaGreatDoorM11
set_option linter.unusedVariables false
set_option linter.unusedSimpArgs false
namespace Go.Cv
variable {G : Nat→Option (List AV)} {T : Tbl} {g : Nat}
theorem ZwP {h : Heap} {b : Nat} {l : List Nat} (H : Holds h b l) : put h b l = h:=by
 have:=H.at_
 cases h with
 | mk bs fs =>
  simp only [put] at *
  congr 1
  apply List.ext_getElem?
  intro i
  by_cases hi : b = i
  ·subst hi
   rw [List.getElem?_set_self (by have:=(List.getElem?_eq_some_iff.1 this).1; exact this),this]
  ·rw [List.getElem?_set_ne hi]
theorem ZvK {W V : List Nat} {n : Nat} (p : StepPre W V n) : ∃ P t,t = dg W n * 4294967296 + dg W (n - 1)∧0 < P∧(dg V (n - 1) * 4294967296 + dg V (n - 2)) * P≤val V∧val V≤(dg V (n - 1) * 4294967296 + dg V (n - 2) + 1) * P ∧
  (t * 4294967296 + dg W (n - 2)) * P≤val W∧val W < (t * 4294967296 + dg W (n - 2) + 1) * P ∧
  t < dg V (n - 1) * 4294967296 + 4294967296∧val W / val V≤t / dg V (n - 1)∧0 < val V:=by
 obtain ⟨P,h⟩:=ZxV p
 exact ⟨P,_,rfl,h⟩
theorem ZsQ (J : Al G T g) {h : Heap} {bu bv n : Nat} {A C V V2 W : List Nat} (HU : Holds h bu (A ++ W ++ C)) (HV : Holds h bv (V ++ V2)) (hne : bv≠bu) (p : StepPre W V n) :
  ∃ W',kJ G ZfS.res (evL G T ZfS.body (numE 0 [.own bu A.length (n + 1) 1,.own bv 0 n 1]) h) = some (.int .u32 ((val W / val V : Nat) : Int),put h bu (A ++ W' ++ C))∧W'.length = n + 1∧Dg W'∧val W' = val W % val V:=by
 obtain ⟨P,t,hte,hP,f1,f2,f3,f4,f5,f6,f7⟩:=ZvK p
 obtain ⟨hn,hs,hW,hV,dW,dV,top,lt⟩:=p
 have x0:=dW.dg n
 have x1:=dW.dg (n - 1)
 have y1:=dV.dg (n - 1)
 have ht : t < 18446744073709551616:=by omega
 have hmod:=Nat.mod_lt t (y:=dg V (n - 1)) (by omega)
 have hdm:=Nat.div_add_mod t (dg V (n - 1))
 rw [Nat.mul_comm] at hdm
 obtain ⟨_,hr,e,q',rfl,hq1,hq2,hq3⟩:=ZxW (G:=G) (T:=T) (t:=t) HU HV hW hV hn (by omega) dV dW rfl rfl rfl f7 f1 f2 f3 f4 lt (by omega) f5 ht _ _ (by omega) hdm f6
 obtain ⟨_,hr2,e2,W1,c,w,rfl,hW1,dW1,hc,hw,hv1⟩:=ZuP (G:=G) J HU HV hne hV (by omega) dV hq1 n 0 W 0 0 (by omega) hW dW (by decide) (by decide) (by simp [val])
 rw [ZwP HU,cast0] at hr2
 have HU1:=HU.put (A ++ W1 ++ C)
 have l0:=ZqF (G:=G) HU (i:=n) (by omega)
 have l1:=ZqF (G:=G) HU (i:=n - 1) (by omega)
 have l2:=Zud (G:=G) HV (i:=n - 1) (by omega)
 have l3:=ZqF (G:=G) HU1 (i:=n) (by omega)
 have i1 : (n : Int) - 1 = ((n - 1 : Nat) : Int):=by omega
 have w0 : (dg W n : Int) % 18446744073709551616 = dg W n:=by omega
 have w1 : (dg W (n - 1) : Int) % 18446744073709551616 = dg W (n - 1):=by omega
 have w2:=ZpO x0 x1
 rw [← hte] at w2
 have w3 : (dg V (n - 1) : Int) % 18446744073709551616 = dg V (n - 1):=by omega
 have h2 : ¬ (dg V (n - 1) : Int) = 0:=by omega
 have hbig : t / dg V (n - 1) < 18446744073709551616:=Nat.lt_of_le_of_lt (Nat.div_le_self _ _) ht
 have w4 : (t : Int).tdiv (dg V (n - 1) : Int) = ((t / dg V (n - 1) : Nat) : Int):=rfl
 have w5 : (t : Int).tmod (dg V (n - 1) : Int) = ((t % dg V (n - 1) : Nat) : Int):=rfl
 generalize t / dg V (n - 1) = tq at *
 generalize t % dg V (n - 1) = tm at *
 have w6 : (tq : Int) % 18446744073709551616 = tq:=by omega
 have w7 : (c : Int) % 4294967296 = c:=by omega
 obtain ⟨d,z,hd,hz,hdz⟩:=ZAs (dW1.dg n) hc hw
 have call:=ZjI (G:=G) J (dW1.dg n) hc hw hd hz hdz
 have st:=Ztl HU1 (i:=n) (x:=d) (by omega)
 rw [ZlP] at st
 have hset:=ZnB (l:=W1) (j:=n) d (by omega)
 have hlen2 : (W1.set n d).length = n + 1:=by rw [List.length_set]; exact hW1
 have dW2:=ZeB (i:=n) dW1 hd
 have hlt2:=ZfN dW2
 rw [hlen2] at hlt2
 have key : val (W1.set n d) + q' * val V = val W + 4294967296 ^ (n + 1) * z:=by
  rw [Nat.pow_succ,Nat.mul_assoc]
  have h1 : 4294967296 ^ n * d + 4294967296 ^ n * c + 4294967296 ^ n * w = 4294967296 ^ n * dg W1 n + 4294967296 ^ n * (4294967296 * z):=by rw [← Nat.mul_add,← Nat.mul_add,hdz,Nat.mul_add]
  rw [Nat.mul_add] at hv1
  generalize 4294967296 ^ n * (4294967296 * z) = a1 at *
  generalize 4294967296 ^ n * d = a2 at *
  generalize 4294967296 ^ n * c = a3 at *
  generalize 4294967296 ^ n * w = a4 at *
  generalize 4294967296 ^ n * dg W1 n = a5 at *
  generalize q' * val V = a6 at *
  omega
 by_cases hz0 : z = 0
 ·subst hz0
  rw [Nat.mul_zero,Nat.add_zero] at key
  obtain ⟨k1,k2⟩:=ZAl f7 key hq2
  refine ⟨W1.set n d,?_,hlen2,dW2,k2⟩
  rw [← k1]
  rw [cast0] at call
  have w8 : (q' : Int) % 4294967296 = q':=by omega
  clear key k1 k2 hset hdm hlt2 f1 f2 f3 f4 f5 f6 hv1 lt hq2 hq3
  repeat (first | simp only [seval,evB,ZfS,l0,l1,l2,l3,i1,w0,w1,w2,w3,w4,w5,w6,w7,w8,h2,hr,hr2,call,st ] | simp (disch:=omega) only [dsB,ZfF])
 ·obtain rfl : z = 1:=by omega
  rw [Nat.mul_one] at key
  have HU2:=HU.put (A ++ W1.set n d ++ C)
  have HV2:=HV.other (l:=A ++ W1.set n d ++ C) hne
  obtain ⟨_,hr3,e3,W3,w',rfl,hW3,dW3,hw3,hv3,hn3⟩:=ZuO (G:=G) (q:=q') J HU2 HV2 hne hV (by omega) dV n 0 (W1.set n d) 0 (by omega) hlen2 dW2 (by decide) (by simp [val]) rfl
  rw [ZlP,ZlP,cast0] at hr3
  have HU3:=HU.put (A ++ W3 ++ C)
  have l4:=ZqF (G:=G) HU3 (i:=n) (by omega)
  have x3:=dW3.dg n
  have w9 : ((dg W3 n : Int) + w') % 4294967296 = (((dg W3 n + w') % 4294967296 : Nat) : Int):=by omega
  have hdd : dg W3 n + w' = (dg W3 n + w') % 4294967296 + 4294967296 * ((dg W3 n + w') / 4294967296):=by omega
  have hd3 : (dg W3 n + w') % 4294967296 < 4294967296:=Nat.mod_lt _ (by decide)
  generalize (dg W3 n + w') % 4294967296 = d3 at *
  generalize (dg W3 n + w') / 4294967296 = k3 at *
  have st3:=Ztl HU3 (i:=n) (x:=d3) (by omega)
  rw [ZlP] at st3
  have hset3:=ZnB (l:=W3) (j:=n) d3 (by omega)
  have hlen4 : (W3.set n d3).length = n + 1:=by rw [List.length_set]; exact hW3
  have dW4:=ZeB (i:=n) dW3 hd3
  have hlt4:=ZfN dW4
  rw [hlen4] at hlt4
  have key4 : val (W3.set n d3) + 4294967296 ^ (n + 1) * k3 = val (W1.set n d) + val V:=by
   rw [Nat.pow_succ,Nat.mul_assoc]
   have h1 : 4294967296 ^ n * dg W3 n + 4294967296 ^ n * w' = 4294967296 ^ n * d3 + 4294967296 ^ n * (4294967296 * k3):=by rw [← Nat.mul_add,← Nat.mul_add,hdd]
   generalize 4294967296 ^ n * (4294967296 * k3) = a1 at *
   generalize 4294967296 ^ n * d3 = a2 at *
   generalize 4294967296 ^ n * w' = a3 at *
   generalize 4294967296 ^ n * dg W3 n = a4 at *
   omega
  have hYB : val V≤4294967296 ^ (n + 1):=by
   have h1:=ZfN dV
   rw [hV] at h1
   exact Nat.le_of_lt (Nat.lt_of_lt_of_le h1 (Nat.pow_le_pow_right (by decide) (Nat.le_succ n)))
  obtain ⟨k1,k2⟩:=ZAm f7 hYB key hlt2 hq3 key4 hlt4
  refine ⟨W3.set n d3,?_,hlen4,dW4,k2⟩
  have hq : val W / val V = q' - 1:=by rw [k1,Nat.add_sub_cancel]
  have hq0 : 1≤q':=by rw [k1]; exact Nat.le_add_left 1 _
  rw [hq]
  rw [show ((1 : Nat) : Int) = 1 from rfl] at call
  have w8 : ((q' : Int) - 1) % 18446744073709551616 = ((q' - 1 : Nat) : Int):=by omega
  have w10 : ((q' - 1 : Nat) : Int) % 4294967296 = ((q' - 1 : Nat) : Int):=by omega
  clear key k1 k2 hset hdm hlt2 f1 f2 f3 f4 f5 f6 hv1 lt hq2 hq3 key4 hset3 hYB hdd hv3 hlt4 hq
  repeat (first | simp only [seval,evB,ZfS,l0,l1,l2,l3,l4,i1,w0,w1,w2,w3,w4,w5,w6,w7,w8,w9,w10,h2,hr,hr2,hr3,call,st,st3 ] | simp (disch:=omega) only [dsB,ZfF])
def KeepsAll (h0 h : Heap) (v : AV) : Prop:=∀ bv lv,Holds h0 bv lv→Holds h bv lv∧∀ b o n s,v = .own b o n s→b≠bv
theorem Zqa {h0 h : Heap} {v : AV} {l : List Nat} (B : Bld h v l) (K : KeepsAll h0 h v) {w : Int} (hw : 0≤w) (hl : l.length < 1099511627776) :
  KeepsAll h0 (appH h v w) (.own (h.b.length + 1) 0 (l.length + 1) 1):=by
 intro bv lv H0
 obtain ⟨HH,hne⟩:=K bv lv H0
 obtain ⟨hf,hB⟩:=B
 have e0 : sliceCells (Heap.mem ⟨h.b ++ [⟨[.int .u32 w],false⟩],h.f⟩) 1 (.own h.b.length 0 1 1) = some (1,cells [w.toNat]):=by
  have : (Heap.mem ⟨h.b ++ [⟨[.int .u32 w],false⟩],h.f⟩) h.b.length = some ⟨cells [w.toNat],false⟩:=by
   simp [Heap.mem,cells,Int.toNat_of_nonneg hw]
  simp [sliceCells,rdBlk,this,cells]
 have key : ∃ h',appV ⟨h.b ++ [⟨[.int .u32 w],false⟩],h.f⟩ 1 4 v (.own h.b.length 0 1 1) = some (.own (h.b.length + 1) 0 (l.length + 1) 1,h') ∧
   h'.f = h.f∧h'.b[bv]? = h.b[bv]?:=by
  rcases hB with ⟨rfl,rfl⟩ | ⟨b,l2,rfl,H⟩
  ·refine ⟨⟨(h.b ++ [⟨[.int .u32 w],false⟩]) ++ [⟨cells [w.toNat],false⟩],h.f⟩,?_,rfl,?_⟩
   ·simp only [appV,e0,Nat.succ_ne_zero,if_false]
    rw [if_pos (by decide)]
    simp
   ·show (h.b ++ _ ++ _)[bv]? = _
    rw [List.getElem?_append_left (by simp only [List.length_append]; have:=HH.lt; omega),List.getElem?_append_left HH.lt]
  ·refine ⟨⟨(h.b ++ [(⟨[.int .u32 w],false⟩ : Blk)]).set b ⟨cells (l ++ l2),true⟩ ++ [⟨cells (l ++ [w.toNat]),false⟩],h.f⟩,?_,rfl,?_⟩
   ·simp only [appV,e0]
    rw [List.getElem?_append_left H.lt,H.at_]
    simp only
    rw [if_pos ⟨trivial,trivial,H.fre,by rw [Zbp,List.length_append]; omega,by simp only [boundApp]; omega⟩]
    simp only [List.length_append,List.length_cons,List.length_nil,List.drop_zero,Nat.mul_one]
    rw [ZhM,List.take_left' rfl,ZtI,Nat.zero_add]
   ·have hb : b≠bv:=hne _ _ _ _ rfl
    show ((h.b ++ _).set b _ ++ _)[bv]? = _
    rw [List.getElem?_append_left (by rw [List.length_set,List.length_append]; have:=HH.lt; omega),List.getElem?_set_ne hb,List.getElem?_append_left HH.lt]
 obtain ⟨h',k1,k2,k3⟩:=key
 have e : appH h v w = h':=by simp only [appH,k1,Option.getD_some]
 rw [e]
 refine ⟨⟨by rw [k3]; exact HH.at_,by rw [k2]; exact HH.fre⟩,?_⟩
 intro b o n s hv
 have:=HH.lt
 injection hv with hb
 omega
theorem Zxo {h0 : Heap} {a : List Nat} {z : Bool} {q s : Nat} (ha : Dg a) (hs : s < 32) (hb : q + a.length < 549755813888) : ∀ (m i : Nat) (h : Heap) (v : AV) (l : List Nat) (c : Nat),
  m + i = a.length→Bld h v l→KeepsAll h0 h v→Dg l→l.length = q + i→c < 2 ^ s→val l + 4294967296 ^ (q + i) * c = 4294967296 ^ q * 2 ^ s * val (a.take i) →
  Post (evL G T Zet [(5,v),(6,.int .i64 (s : Int)),(7,.int .u32 (c : Int)),(24,D z a),(25,.int .i64 ((a.length : Nat) : Int)),(26,.int .i64 (i : Int))] h) fun r =>
   ∃ e h' v' l',∃ c' : Nat,r = (.exit 0,(5,v') :: (6,.int .i64 (s : Int)) :: (7,.int .u32 (c' : Int)) :: e,h')∧Bld h' v' l'∧KeepsAll h0 h' v'∧Dg l'∧l'.length = q + a.length∧c' < 2 ^ s∧val (l' ++ [c']) = 4294967296 ^ q * 2 ^ s * val a
 | 0,i,h,v,l,c,hm,B,K,hd,hl,hc,he => by
  rw [Zae G T (c:=Zet) rfl]
  have h1 : ¬ (i : Int) < a.length:=by omega
  repeat (first | simp only [seval,evB,Zia,h1] | simp (disch:=omega) only [dsB])
  refine Post.some ⟨_,_,_,_,_,rfl,B,K,hd,by omega,hc,?_⟩
  rw [List.take_of_length_le (by omega)] at he
  rw [Zeq,hl,he]
 | m + 1,i,h,v,l,c,hm,B,K,hd,hl,hc,he => by
  rw [Zae G T (c:=Zet) rfl]
  have ha':=ha.dg i
  have e7 : (i : Int) + 1 = ((i + 1 : Nat) : Int):=by omega
  have h1 : (i : Int) < a.length:=by omega
  have hk:=Zsp hc ha'
  have hp : (2 : Nat) ^ s≤2 ^ 31:=Nat.pow_le_pow_right (by decide) (by omega)
  have w1 : (dg a i : Int) % 18446744073709551616 = dg a i:=by omega
  have w2 : min s 32 = s:=by omega
  have w3 : (dg a i : Int) * 2 ^ s % 4294967296 = ((dg a i * 2 ^ s % 4294967296 : Nat) : Int):=by
   rw [Zbb,← Int.natCast_mul]; omega
  have w4 : orI .u32 ((dg a i * 2 ^ s % 4294967296 : Nat) : Int) (c : Int) = ((c + dg a i * 2 ^ s % 4294967296 : Nat) : Int):=by
   rw [or32 (by omega) (by omega),Nat.or_comm,Zti (by omega),ZmX hc]
  have w5 : (32 - (s : Int)) = ((32 - s : Nat) : Int):=by omega
  have w6 : min (32 - s) 64 = 32 - s:=by omega
  have w7 : (dg a i : Int) / 2 ^ (32 - s) = ((dg a i / 2 ^ (32 - s) : Nat) : Int):=by rw [Zbb]; rfl
  have hsm : dg a i * 2 ^ s % 4294967296 + c < 4294967296:=by
   have e0:=Zti (x:=dg a i) (s:=s) (by omega)
   have e1 : dg a i % 2 ^ (32 - s) < 2 ^ (32 - s):=Nat.mod_lt _ (Nat.two_pow_pos _)
   have e2 : (dg a i % 2 ^ (32 - s) + 1) * 2 ^ s≤2 ^ (32 - s) * 2 ^ s:=Nat.mul_le_mul_right _ e1
   rw [← Nat.pow_add,show 32 - s + s = 32 by omega,Nat.add_mul] at e2
   omega
  have hcd : (dg a i * 2 ^ s % 4294967296 + c) + 4294967296 * (dg a i * 2 ^ s / 4294967296) = c + dg a i * 2 ^ s:=by omega
  have hcl : dg a i * 2 ^ s / 4294967296 < 2 ^ s:=by
   refine Nat.lt_of_le_of_lt ?_ hk
   exact Nat.div_le_div_right (by omega)
  have w8 : ((dg a i / 2 ^ (32 - s) : Nat) : Int) % 4294967296 = ((dg a i * 2 ^ s / 4294967296 : Nat) : Int):=by
   rw [ZuI (by omega)]; omega
  repeat (first | simp only [seval,evB,Zia,h1,w1,w2,w3,w4,w5,w6,w7,w8 ] | simp (disch:=omega) only [dsB,ZmS B])
  rw [e7]
  refine Zxo ha hs hb m (i + 1) _ _ _ _ (by omega) (ZdV B (by omega) (by omega)).2 (Zqa B K (by omega) (by omega)) (Zcv hd (by omega)) (by rw [List.length_append,hl]; rfl) hcl ?_
  rw [Zad]
  refine ZvO (j:=q + i) (q:=q) (i:=i) hl rfl he ?_
  rw [Int.toNat_natCast,Nat.add_comm c]; exact hcd
theorem ZwH (J : Al G T g) {h : Heap} (hf : FreH h) {z : Bool} {a n : Nat} (ha : a≠0) (hs : (dl a).length < 137438953472) (hn : n < 1099511627776) :
  ∃ b l2 h',kJ G ZiO.res (evL G T ZiO.body (numE 0 [D z (dl a),.int .i64 (n : Int)]) h) = some (.own b 0 (dl (a * 2 ^ n)).length 1,h')∧Holds h' b (dl (a * 2 ^ n) ++ l2)∧Dg l2∧FreH h'∧KeepsAll h h' (.own b 0 (dl (a * 2 ^ n)).length 1):=by
 have h0 : ¬ ((dl a).length : Int) = 0:=by
  intro hc
  exact ha (ZgR.1 (List.length_eq_zero_iff.1 (by omega)))
 have hnm : n / 32≤n / 32 + (dl a).length + 1:=by omega
 have K0 : KeepsAll h (new h (List.replicate (n / 32 + (dl a).length + 1) 0)) (.own h.b.length 0 (n / 32) 1):=fun bv lv H => ⟨H.new,fun b o n s hv => by have:=H.lt; injection hv with hb; omega⟩
 obtain ⟨r,hr,e,h',v',l',c',rfl,B,K,hd,hl,hc,hv⟩:=Zxo (G:=G) (T:=T) (z:=z) (q:=n / 32) (s:=n % 32) (Zao a) (by omega) (by omega) (dl a).length 0 _ _ _ 0 rfl (ZvU hf (n / 32) _ hnm) K0 (ZjF _) (by simp) (Nat.two_pow_pos _) (by simp [Ztq,val])
 rw [cast0] at hr
 have hp : c' < 4294967296:=by
  have : (2 : Nat) ^ (n % 32)≤2 ^ 31:=Nat.pow_le_pow_right (by decide) (by omega)
  omega
 have m1 : (((n / 32 : Nat) : Int) + ((dl a).length : Nat) + 1).toNat = n / 32 + (dl a).length + 1:=by omega
 obtain ⟨hap,HB,B2⟩:=ZnD B (w:=(c' : Int)) (by omega) (by omega)
 have K2:=Zqa B K (w:=(c' : Int)) (by omega) (by omega)
 rw [Int.toNat_natCast] at HB
 have hd2:=Zcv hd hp
 have hlen : (l' ++ [c']).length = l'.length + 1:=by rw [List.length_append]; rfl
 obtain ⟨n',e',ht,hn',htk⟩:=Ztn (G:=G) (T:=T) HB hd2 (by omega) (l'.length + 1) (by omega)
 rw [← hlen,List.take_length,hv,ZaE,pow32,← Nat.pow_add,show 32 * (n / 32) + n % 32 = n by omega,Nat.mul_comm] at htk
 have hn2 : n' = (dl (a * 2 ^ n)).length:=by rw [← htk,List.length_take]; omega
 subst hn2
 have hw1 : IntKind.i64.wrap ((n / 32 : Nat) : Int) = ((n / 32 : Nat) : Int):=Zac (by omega)
 refine ⟨h'.b.length + 1,(l' ++ [c']).drop (dl (a * 2 ^ n)).length,appH h' v' c',?_,?_,hd2.drop _,B2.1,?_⟩
 ·repeat (first | simp only [seval,evB,ZiO,h0,hw1,m1,hr,hap,Zjn G T J.A.Zcg,ZhK,ht] | simp (disch:=omega) only [dsB])
 ·rw [← htk,List.length_take,Nat.min_eq_left hn',List.take_append_drop]; exact HB
 ·intro bv lv H
  obtain ⟨k1,k2⟩:=K2 bv lv H
  exact ⟨k1,fun b o n s hv => by injection hv with hb; subst hb; exact k2 _ _ _ _ rfl⟩
theorem ZIx {h : Heap} {b n : Nat} {l : List Nat} (H : Holds h b l) (hn : n≤l.length) {lo hi : Nat} (h1 : lo≤hi∧hi≤n∧lo < n) :
  evSlice h.mem 1 (.own b 0 n 1) (some (.int .i64 (lo : Int))) (some (.int .i64 (hi : Int))) = some (.own b lo (hi - lo) 1):=by
 simp only [evSlice,lenA,capA,bound,H.mem,Bool.false_eq_true,if_false,Nat.succ_ne_zero,Zbp]
 rw [if_pos (by refine ⟨by omega,by omega,?_⟩; omega),if_pos ⟨trivial,Or.inr (by omega)⟩]
 have e0 : ((hi : Int) - (lo : Int)).toNat = hi - lo:=by omega
 rw [e0,Int.toNat_natCast,Nat.mul_one,Nat.zero_add]
theorem ZBS {n j N : Nat} {U0 R V : List Nat} (hn : 2≤n) (hs : N < 17179869184) (hV : V.length = n) (dV : Dg V) (d0 : Dg U0) (dR : Dg R) (top : 2147483648≤dg V (n - 1)) (hU : U0.length = N) (hR : R.length = N - (j + 1)) (hj : j + 1 + n≤N) (hlt : val R < val V) :
  StepPre ((dg U0 j :: R).take (n + 1)) V n∧val ((dg U0 j :: R).take (n + 1)) = dg U0 j + 4294967296 * val R∧val ((dg U0 j :: R).drop (n + 1)) = 0:=by
 have dX : Dg (dg U0 j :: R):=ZfO.2 ⟨d0.dg j,dR⟩
 have hX : val (dg U0 j :: R) < 4294967296 * val V:=by
  rw [ZaD]; have:=d0.dg j; omega
 have hVb:=ZfN dV
 rw [hV] at hVb
 have hB : val (dg U0 j :: R) < 4294967296 ^ (n + 1):=by
  rw [Nat.pow_succ,Nat.mul_comm]
  exact Nat.lt_of_lt_of_le hX (Nat.mul_le_mul_left _ (Nat.le_of_lt hVb))
 have e1:=Zxp dX (n + 1)
 have e2:=ZpT dX (n + 1)
 rw [Nat.mod_eq_of_lt hB] at e1
 rw [Nat.div_eq_of_lt hB] at e2
 refine ⟨⟨hn,by omega,?_,hV,dX.take _,dV,top,by rw [e1]; exact hX⟩,by rw [e1,ZaD],e2⟩
 rw [List.length_take,List.length_cons]; omega
theorem Zzq {U0 Q V : List Nat} {j q r X R : Nat} (hj : j < U0.length) (hq : j < Q.length) (h : val (U0.drop (j + 1)) = val (Q.drop (j + 1)) * val V + R) (hX : X = dg U0 j + 4294967296 * R) :
  val (U0.drop j) = val ((Q.set j (X / val V)).drop j) * val V + X % val V:=by
 rw [ZfB hj,Zwm hq,ZaD,ZaD,h]
 have h2:=Nat.div_add_mod X (val V)
 generalize X / val V = a at *
 generalize X % val V = b at *
 rw [Nat.mul_add,Nat.add_mul,Nat.mul_assoc,Nat.mul_comm a]
 generalize val (Q.drop (j + 1)) * val V = c at *
 omega
theorem Zue (J : Al G T g) {bu bv bq n N m : Nat} {U0 C V V2 : List Nat} {s : AV} (h1 : bv≠bu) (h2 : bq≠bu) (h3 : bv≠bq) (hn : 2≤n) (hs : N < 17179869184) (hV : V.length = n) (dV : Dg V) (d0 : Dg U0) (top : 2147483648≤dg V (n - 1)) (hU : U0.length = N) (hm : N = m + n) :
  ∀ (j : Nat) (h : Heap) (R Q : List Nat),j≤m→Holds h bu (U0.take j ++ R ++ C)→Holds h bv (V ++ V2)→Holds h bq Q→Dg R→R.length = N - j→Dg Q→Q.length = m→val R < val V→val (U0.drop j) = val (Q.drop j) * val V + val R →
  Post (evL G T Zhu [(6,s),(7,.own bv 0 n 1),(8,.own bu 0 N 1),(9,.int .i64 (n : Int)),(10,.own bq 0 m 1),(11,.int .i64 ((j : Int) - 1))] h) fun r =>
   ∃ e h' R' Q',r = (.exit 2,(6,s) :: (7,.own bv 0 n 1) :: (8,.own bu 0 N 1) :: (9,.int .i64 (n : Int)) :: (10,.own bq 0 m 1) :: e,h')∧Holds h' bu (R' ++ C)∧Holds h' bq Q'∧Dg R'∧R'.length = N∧Dg Q'∧Q'.length = m∧val R' < val V∧val U0 = val Q' * val V + val R'
 | 0,h,R,Q,hj,HU,HV,HQ,dR,hR,dQ,hQ,hlt,he => by
  rw [Zae G T (c:=Zhu) rfl]
  have c1 : ¬ (0 : Int)≤((0 : Nat) : Int) - 1:=by omega
  repeat (first | simp only [seval,evB,Zkw,c1] | simp (disch:=omega) only [dsB])
  rw [List.take_zero,List.nil_append] at HU
  exact Post.some ⟨_,_,_,_,rfl,HU,HQ,dR,hR,dQ,hQ,hlt,he⟩
 | j + 1,h,R,Q,hj,HU,HV,HQ,dR,hR,dQ,hQ,hlt,he => by
  rw [Zae G T (c:=Zhu) rfl]
  have e1 : ((j + 1 : Nat) : Int) - 1 = (j : Int):=by omega
  have c1 : (0 : Int)≤(j : Int):=by omega
  obtain ⟨p,v1,v2⟩:=ZBS (j:=j) (U0:=U0) (R:=R) (N:=N) hn hs hV dV d0 dR top hU hR (by omega) hlt
  have hls:=Zzq (U0:=U0) (Q:=Q) (V:=V) (j:=j) (q:=0) (r:=0) (by omega) (by omega) he v1
  have hlen : (dg U0 j :: R).length = N - j:=by rw [List.length_cons]; omega
  have dX : Dg (dg U0 j :: R):=ZfO.2 ⟨d0.dg j,dR⟩
  have hsp : U0.take (j + 1) ++ R ++ C = U0.take j ++ (dg U0 j :: R).take (n + 1) ++ ((dg U0 j :: R).drop (n + 1) ++ C):=by
   rw [Zmf (by omega)]
   simp only [List.append_assoc,List.singleton_append]
   rw [← List.append_assoc (List.take (n + 1) _),List.take_append_drop,List.cons_append]
  have hcl : N≤(U0.take (j + 1) ++ R ++ C).length:=by
   simp only [List.length_append,List.length_take]; omega
  have sl:=ZIx HU hcl (lo:=j) (hi:=j + n + 1) ⟨by omega,by omega,by omega⟩
  rw [show j + n + 1 - j = n + 1 by omega] at sl
  have e2 : (j : Int) + (n : Int) + 1 = ((j + n + 1 : Nat) : Int):=by omega
  rw [hsp] at HU
  have htl : (U0.take j).length = j:=by rw [List.length_take]; omega
  obtain ⟨W',hst,hW',dW',hv'⟩:=ZsQ (G:=G) J HU HV h1 p
  rw [htl] at hst
  simp only [ZqN,ZsR,Nat.reduceAdd,Nat.zero_add] at hst
  have hlt' : val W' < val V:=by rw [hv']; exact Nat.mod_lt _ (by have:=ZfN dV; omega)
  have HU':=HU.put (U0.take j ++ W' ++ ((dg U0 j :: R).drop (n + 1) ++ C))
  have HV':=HV.other (l:=U0.take j ++ W' ++ ((dg U0 j :: R).drop (n + 1) ++ C)) h1
  have HQ':=HQ.other (l:=U0.take j ++ W' ++ ((dg U0 j :: R).drop (n + 1) ++ C)) h2
  have st:=ZcU HQ' (i:=j) (x:=val (List.take (n + 1) (dg U0 j :: R)) / val V) (by omega)
  have hqd : val (List.take (n + 1) (dg U0 j :: R)) / val V < 4294967296:=ZtN p.lt (Nat.le_refl _)
  have HU2:=HU'.other (l:=Q.set j (val (List.take (n + 1) (dg U0 j :: R)) / val V)) h2.symm
  have HV2:=HV'.other (l:=Q.set j (val (List.take (n + 1) (dg U0 j :: R)) / val V)) h3
  have HQ2:=HQ'.put (Q.set j (val (List.take (n + 1) (dg U0 j :: R)) / val V))
  rw [e1]
  repeat (first | simp only [seval,evB,Zkw,c1,e2,sl,Zjn G T J.A.ZsQ,hst,st] | simp (disch:=omega) only [dsB])
  have hR2 : val (W' ++ (dg U0 j :: R).drop (n + 1)) = val W':=by rw [Zrq,v2,Nat.mul_zero,Nat.add_zero]
  have hl : U0.take j ++ (W' ++ (dg U0 j :: R).drop (n + 1)) ++ C = U0.take j ++ W' ++ ((dg U0 j :: R).drop (n + 1) ++ C):=by simp only [List.append_assoc]
  refine Zue J h1 h2 h3 hn hs hV dV d0 top hU hm j _ (W' ++ (dg U0 j :: R).drop (n + 1)) _ (by omega) (by rw [hl]; exact HU2) HV2 HQ2 (ZCX.2 ⟨dW',dX.drop _⟩) ?_ (ZeB dQ hqd) (by rw [List.length_set]; exact hQ) (by rw [hR2]; exact hlt') ?_
  ·rw [List.length_append,List.length_drop,hW',hlen]; omega
  ·rw [hR2,hv']; exact hls
theorem ZBr {h0 h : Heap} {b La : Nat} {L C A : List Nat} {za : Bool} {s6 s7 : AV} (H : Holds h b (L ++ C)) (hf : FreH h) (dL : Dg L) (hL : L.length = La) (hs : A.length < 17179869184) (hlen : La = A.length∨La = A.length + 1) (K : KeepsAll h0 h (.own b 0 La 1)) :
  Post (evL G T ZeW [(0,D za A),(6,s6),(7,s7),(8,.own b 0 La 1)] h) fun r =>
   ∃ e h' b' C' U,r = (.exit 0,(0,D za A) :: (6,s6) :: (7,s7) :: (8,.own b' 0 (A.length + 1) 1) :: e,h')∧Holds h' b' (U ++ C')∧FreH h'∧U.length = A.length + 1∧Dg U∧val U = val L∧KeepsAll h0 h' (.own b' 0 (A.length + 1) 1):=by
 subst hL
 rw [Zae G T (c:=ZeW) rfl]
 rcases hlen with hl | hl
 ·have c1 : ((L.length : Nat) : Int)≤((A.length : Nat) : Int):=by omega
  have B : Bld h (.own b 0 L.length 1) L:=⟨hf,Or.inr ⟨b,C,rfl,H⟩⟩
  obtain ⟨ha1,ha2,ha3⟩:=ZnD B (w:=0) (by decide) (by omega)
  have K2:=Zqa B K (w:=0) (by decide) (by omega)
  have c2 : ¬ (((L.length + 1 : Nat) : Int)≤((A.length : Nat) : Int)):=by omega
  have e : Post (evL G T ZeW [(0,D za A),(6,s6),(7,s7),(8,.own (h.b.length + 1) 0 (L.length + 1) 1)] (appH h (.own b 0 L.length 1) 0)) fun r =>
   ∃ e h' b' C' U,r = (.exit 0,(0,D za A) :: (6,s6) :: (7,s7) :: (8,.own b' 0 (A.length + 1) 1) :: e,h')∧Holds h' b' (U ++ C')∧FreH h'∧U.length = A.length + 1∧Dg U∧val U = val L∧KeepsAll h0 h' (.own b' 0 (A.length + 1) 1):=by
   rw [Zae G T (c:=ZeW) rfl]
   repeat (first | simp only [seval,evB,Zht,c2] | simp (disch:=omega) only [dsB])
   refine Post.some ⟨_,_,_,[],L ++ [0],by rw [hl],by rw [List.append_nil]; exact ha2,ha3.1,by rw [List.length_append,hl]; rfl,Zcv dL (by decide),by rw [Zeq,Nat.mul_zero,Nat.add_zero],by rw [← hl]; exact K2⟩
  repeat (first | simp only [seval,evB,Zht,c1,ha1] | simp (disch:=omega) only [dsB])
  exact e
 ·have c1 : ¬ (((L.length : Nat) : Int)≤((A.length : Nat) : Int)):=by omega
  repeat (first | simp only [seval,evB,Zht,c1] | simp (disch:=omega) only [dsB])
  exact Post.some ⟨_,_,_,C,L,by rw [hl],H,hf,hl,dL,rfl,by rw [← hl]; exact K⟩
theorem ZBT {b n s : Nat} (hn : (dl b).length = n) (h0 : 0 < n) (hs : s = 32 - blen (dg (dl b) (n - 1))) : s < 32∧(dl (b * 2 ^ s)).length = n∧2147483648≤dg (dl (b * 2 ^ s)) (n - 1):=by
 have hb0 : b≠0:=by rintro rfl; rw [Zai] at hn; simp at hn; omega
 have hbl:=Zso hb0
 rw [hn] at hbl
 have ht : blen (dg (dl b) (n - 1))≤32:=Zaf.2 ((Zao b).dg _)
 have hb1:=Zaa b
 rw [hn] at hb1
 have hm:=Zav hb0 s
 have e1 : blen (b * 2 ^ s) = 32 * n:=by omega
 have e2 : (dl (b * 2 ^ s)).length = n:=by rw [Zaa]; omega
 have hm0 : b * 2 ^ s≠0:=Nat.mul_ne_zero hb0 (Nat.ne_of_gt (Nat.two_pow_pos s))
 have e3:=Zso hm0
 rw [e2,e1] at e3
 have e4 : 31 < blen (dg (dl (b * 2 ^ s)) (n - 1)):=by omega
 exact ⟨by omega,e2,Zbn.1 e4⟩
theorem ZxM {a b s m n N : Nat} {U : List Nat} (dU : Dg U) (hN : U.length = N) (hU : val U = a * 2 ^ s) (ha : (dl a).length + 1 = N) (hb : (dl b).length = n) (h0 : 0 < n) (hm : N = m + n) : val (U.drop m) < b * 2 ^ s:=by
 rw [ZpT dU,hU]
 apply Nat.div_lt_of_lt_mul
 have h1 : a < 4294967296 ^ (N - 1):=Zcl.1 (by omega)
 have h2 : 4294967296 ^ (n - 1)≤b:=by
  apply Classical.byContradiction; intro hc
  have:=Zcl.2 (Nat.lt_of_not_le hc)
  omega
 have h3 : a < 4294967296 ^ m * b:=by
  refine Nat.lt_of_lt_of_le h1 ?_
  rw [show N - 1 = m + (n - 1) by omega,Nat.pow_add]
  exact Nat.mul_le_mul_left _ h2
 rw [← Nat.mul_assoc]
 exact Nat.mul_lt_mul_of_pos_right h3 (Nat.two_pow_pos s)
theorem ZsO (J : Al G T g) {z y : Bool} {a b : Nat} (hb : 2≤(dl b).length) (hab : b≤a) (hs : (dl a).length < 8589934592) : ∃ z1 z2,run G T 109 [D z (dl a),D y (dl b)] = some (.tup [D z1 (dl (a / b)),D z2 (dl (a % b))]):=by
 obtain ⟨n,hn⟩ : ∃ n,n = (dl b).length:=⟨_,rfl⟩
 obtain ⟨s,hs1⟩ : ∃ s,s = 32 - blen (dg (dl b) (n - 1)):=⟨_,rfl⟩
 obtain ⟨t1,t2,t3⟩:=ZBT hn.symm (by omega) hs1
 have hb0 : b≠0:=by rintro rfl; rw [Zai] at hb; exact absurd hb (by decide)
 have ha0 : a≠0:=by omega
 have hle : (dl b).length≤(dl a).length:=by
  have h1:=Zap hab
  have h2:=Zaa a
  have h3:=Zaa b
  omega
 obtain ⟨bv,V2,h1,r1,H1,dV2,F1,K1⟩:=ZwH (G:=G) (z:=y) J (h:=.nil) FreH.nil hb0 (by omega) (n:=s) (by omega)
 obtain ⟨bu,l2,h2,r2,H2,d2,F2,K2⟩:=ZwH (G:=G) (z:=z) J (h:=h1) F1 ha0 (by omega) (n:=s) (by omega)
 simp only [ZqN,ZsR,Nat.reduceAdd,Nat.zero_add] at r1 r2
 have hLa : (dl (a * 2 ^ s)).length = (dl a).length∨(dl (a * 2 ^ s)).length = (dl a).length + 1:=by
  rw [Zaa,Zaa,Zav ha0]; omega
 obtain ⟨_,r3,e3,h3,bu3,C3,U,rfl,H3,F3,hUl,dU,hUv,K3⟩:=ZBr (G:=G) (T:=T) (h0:=h1) (za:=z) (s6:=.int .i64 (s : Int)) (s7:=.own bv 0 n 1) H2 F2 (Zao _) rfl (A:=dl a) (by omega) hLa K2
 rw [ZaE] at hUv
 obtain ⟨HV3,hne3⟩:=K3 _ _ H1
 obtain ⟨m,hm⟩ : ∃ m,(dl a).length + 1 = m + n:=⟨(dl a).length + 1 - n,by omega⟩
 have hfirst:=ZxM dU hUl hUv rfl hn.symm (by omega) hm
 have HQ:=ZbA F3 (List.replicate m 0)
 have HU4:=H3.new (m:=List.replicate m 0)
 have HV4:=HV3.new (m:=List.replicate m 0)
 have q1 : bv≠bu3:=(hne3 _ _ _ _ rfl).symm
 have q2 : h3.b.length≠bu3:=by have:=H3.lt; omega
 have q3 : bv≠h3.b.length:=by have:=HV3.lt; omega
 have vV : val (dl (b * 2 ^ s)) = b * 2 ^ s:=ZaE _
 obtain ⟨_,r4,e4,h4,R,Q,rfl,HU5,HQ5,dR,hR,dQ,hQ,hlt,hv⟩:=Zue (G:=G) (m:=m) (N:=(dl a).length + 1) (n:=n) (s:=.int .i64 (s : Int)) J q1 q2 q3 (by omega) (by omega) t2 (Zao _) dU t3 hUl hm m (new h3 (List.replicate m 0)) (U.drop m) (List.replicate m 0) (Nat.le_refl _) (by rw [List.take_append_drop]; exact HU4) HV4 HQ (dU.drop _) (by rw [List.length_drop,hUl]) (ZjF _) (List.length_replicate ..) (by rw [vV]; exact hfirst) (by
  have : (List.replicate m 0).drop m = []:=List.drop_eq_nil_of_le (by rw [List.length_replicate]; exact Nat.le_refl _)
  rw [this]; simp [val])
 rw [vV] at hlt hv
 rw [hUv] at hv
 have hq : val Q = a / b:=by
  have h1:=(Zlz hlt hv).1
  rw [h1,Nat.mul_div_mul_right _ _ (Nat.two_pow_pos s)]
 have hr : val R = a % b * 2 ^ s:=by
  have h1:=(Zlz hlt hv).2
  rw [h1,Nat.mul_mod_mul_right]
 have hRn : val (R.take n) = val R:=by
  rw [Zxp dR,Nat.mod_eq_of_lt]
  refine Nat.lt_of_lt_of_le hlt ?_
  have:=ZfN (Zao (b * 2 ^ s))
  rw [t2,ZaE] at this
  exact Nat.le_of_lt this
 obtain ⟨z1,hz1⟩:=Zcg J (z:=false) dQ (by omega)
 obtain ⟨z2,hz2⟩:=Zcg J (z:=false) (dR.take n) (by rw [List.length_take]; omega)
 rw [hRn,hr] at hz2
 rw [hq] at hz1
 have hsb : (dl (a % b * 2 ^ s)).length≤n:=by
  have:=Zcl.1 (Nat.le_refl (dl (b * 2 ^ s)).length)
  rw [t2] at this
  exact Zcl.2 (Nat.lt_of_le_of_lt (Nat.mul_le_mul_right _ (Nat.le_of_lt (Nat.mod_lt a (by omega)))) this)
 obtain ⟨z3,hz3⟩:=ZnX J (z:=z2) (a:=a % b * 2 ^ s) (n:=s) (by omega) (by omega)
 rw [Nat.mul_div_cancel _ (Nat.two_pow_pos s)] at hz3
 have hsl : (dl (a % b)).length < 1099511627776:=by
  have h1:=Zap (Nat.le_of_lt (Nat.mod_lt a (Nat.pos_of_ne_zero hb0)))
  have h2:=Zaa (a % b)
  have h3:=Zaa b
  omega
 obtain ⟨z4,hz4⟩:=Zcg J (z:=z3) (Zao (a % b)) hsl
 rw [ZaE] at hz4
 have sq:=Zch HQ5 (n:=m) (by omega)
 rw [← hQ,List.take_length,hQ] at sq
 have su:=Zch HU5 (n:=n) (by rw [List.length_append]; omega)
 rw [List.take_append_of_le_length (by omega)] at su
 have slu:=ZDC (n:=(dl a).length + 1) (off:=0) (k:=.i64) (j:=(n : Int)) HU5.mem ⟨by omega,by rw [Int.toNat_natCast]; omega⟩
 rw [Int.toNat_natCast] at slu
 have i1 : ((dl b).length : Int) - 1 = (((dl b).length - 1 : Nat) : Int):=by omega
 have lz:=ZEb (G:=G) J ((Zao b).dg (n - 1))
 rw [← hs1] at lz
 have w1 : (((dl a).length + 1 : Nat) : Int) - (n : Int) = (m : Int):=by omega
 have mm : ∀ f : List Nat,(⟨h4.b,f⟩ : Heap).mem = h4.mem:=fun _ => rfl
 refine ⟨z1,z4,?_⟩
 rw [Zab G T J.A.ZsO]
 clear hLa hUv hfirst hlt hv hq hr hRn hsb hsl
 subst hn
 rw [t2] at r1
 repeat (first | simp only [seval,evB,Zmm,i1,lz,Zjn G T J.A.Zum,r1,r2,r3,r4,w1,sq,hz1,slu,su,hz2,hz3,hz4,mm,ZoM] | simp (disch:=omega) only [dsB])
theorem ZAN (e : Env) (h : Heap) : evL G T Zlv e h = kS G T (evL G T Zlu (keepE [5,6,7] e) h) Zlv:=Zae G T rfl e h
theorem ZJD (x y : AV) (k : IntKind) : iaddrV 1 (.imm 2 [x,y]) (.int k 0) = some (.iptr [x,y] 0):=rfl
theorem ZJE (x y : AV) (k : IntKind) : iaddrV 1 (.imm 2 [x,y]) (.int k 1) = some (.iptr [x,y] 1):=rfl
theorem ZKl (h : Mem) (x y : AV) : rdAt G h 1 (.iptr [x,y] 0) = some [x]:=rfl
theorem ZKm (h : Mem) (x y : AV) : rdAt G h 1 (.iptr [x,y] 1) = some [y]:=rfl
theorem ZlM (J : Al G T g) {z y : Bool} {a b : List Nat} : run G T 106 [.imm 2 [D z a,D y b]] = some (.bool (mayL a && mayL b)):=by
 rw [Zab G T J.A.ZlM]
 have h1:=ZbJ (G:=G) J z a
 have h2:=ZbJ (G:=G) J y b
 cases ha : mayL a <;> cases hb : mayL b <;> (
  rw [ha] at h1
  rw [hb] at h2
  repeat' (first | simp only [seval,exC,ZnJ,h1,h2,ZAN,Zlu,ZJD,ZJE,ZKl,ZKm] | simp (disch:=omega) only [dxB])
  all_goals rfl)
theorem Zyl {h : Heap} {z : Bool} {l : List Nat} (hl : l≠[]) (hs : l.length < 549755813888) : appV h 1 4 .nil (D z l) = some (.own h.b.length 0 l.length 1,new h l):=by
 cases l with
 | nil => exact absurd rfl hl
 | cons a l =>
  have e : sliceCells h.mem 1 (D z (a :: l)) = some ((a :: l).length,cells (a :: l)):=by
   simp [D,sliceCells,cells]
  simp only [appV,e]
  rw [if_neg (by simp),if_pos (by simp only [boundApp]; omega)]
  rfl
theorem ZvX {h : Heap} {z : Bool} : appV h 1 4 .nil (D z []) = some (.nil,h):=by
 cases z <;> rfl
theorem ZdK {a b : Nat} : cmpN a b < 0↔a < b:=by
 unfold cmpN; split
 ·constructor <;> intro <;> omega
 ·split <;> constructor <;> intro <;> omega
theorem ZCx {h : Heap} (hf : FreH h) (l : List Nat) : snapG (new h l).mem 3 h.b.length 0 l.length 1 = some (D false l):=by
 have:=Zch (ZbA hf l) (n:=l.length) (Nat.le_refl _)
 rw [List.take_length] at this; exact this
theorem Zgb (J : Al G T g) {z y : Bool} {a b : Nat} (ha : mayL (dl a) = true) (hb : mayL (dl b) = true) (h0 : b≠0) :
  ∃ z1 z2,run G T 77 [D z (dl a),D y (dl b)] = some (.tup [D z1 (dl (a / b)),D z2 (dl (a % b)),.int .i64 0]):=by
 have la:=(ZaO.1 ha).1
 have lb:=(ZaO.1 hb).1
 have h1:=ZlM (G:=G) J (z:=z) (y:=y) (a:=dl a) (b:=dl b)
 rw [ha,hb,Bool.and_self] at h1
 have h2:=Zno (G:=G) J (z:=z) (y:=y) (a:=a) (b:=b) (by omega) (by omega)
 have hl0 : ¬ ((dl b).length : Int) = 0:=by
  intro hc; exact h0 (Zan.1 (by omega))
 by_cases hab : a < b
 ·have c1 : cmpN a b < 0:=ZdK.2 hab
  rw [Nat.div_eq_of_lt hab,Nat.mod_eq_of_lt hab,Zai]
  by_cases ha0 : a = 0
  ·subst ha0
   rw [Zai] at *
   refine ⟨true,true,?_⟩
   rw [Zab G T J.A.Zgb]
   clear la lb ha hb hab
   repeat' (first | simp only [seval,exC,Zdh,h1,h2,hl0,c1,ZvX] | simp (disch:=omega) only [dxB])
   rfl
  ·have hne : dl a≠[]:=fun hc => ha0 (ZgR.1 hc)
   refine ⟨true,false,?_⟩
   rw [Zab G T J.A.Zgb]
   clear ha hb hab
   repeat' (first | simp only [seval,exC,Zdh,h1,h2,hl0,c1 ] | simp (disch:=omega) only [dxB,Zyl])
   have hsn:=ZCx (h:={ b:=[{ cs:=[D z (dl a),D y (dl b)] }],f:=fz1 (AV.bool true) [0] }) (fun c hc => absurd hc List.not_mem_nil) (dl a)
   simp only [List.length_cons,List.length_nil,Nat.zero_add] at hsn
   rw [hsn]
   rfl
 ·have c1 : ¬ cmpN a b < 0:=fun hc => hab (ZdK.1 hc)
  by_cases hb1 : (dl b).length = 1
  ·have hd0 : dl b = [b]:=by
    have e1 : b < 4294967296:=by have:=Zcl.1 (Nat.le_of_eq hb1); simpa using this
    rw [ZnQ h0,Nat.mod_eq_of_lt e1,Nat.div_eq_of_lt e1,Zai]
   have e1 : b < 4294967296:=by have:=Zcl.1 (Nat.le_of_eq hb1); simpa using this
   have hr : a % b < b:=Nat.mod_lt _ (by omega)
   obtain ⟨z1,hz1⟩:=ZqM (G:=G) J (z:=z) (a:=a) (d:=b) (by omega) e1 (by omega)
   obtain ⟨z2,hz2⟩:=Zcg (G:=G) J (z:=false) (l:=[a % b]) (ZfO.2 ⟨by omega,Dg.nil⟩) (by simp)
   rw [show val [a % b] = a % b by simp [val]] at hz2
   have hz2 : run G T 94 [.imm 1 [.int .u32 ((a % b : Nat) : Int)]] = some (D z2 (dl (a % b))):=hz2
   have hdb : dg (dl b) 0 = b:=by rw [hd0]; rfl
   have hb1' : ((dl b).length : Int) = 1:=by omega
   refine ⟨z1,z2,?_⟩
   rw [Zab G T J.A.Zgb]
   clear ha hb hab hr
   repeat' (first | simp only [seval,exC,Zdh,h1,h2,hl0,c1,hb1',hdb,hz1,hz2] | simp (disch:=omega) only [dxB])
  ·have hb2 : ¬ ((dl b).length : Int) = 1:=by omega
   have hb3 : ¬ (dl b).length = 0:=by omega
   obtain ⟨z1,z2,hz⟩:=ZsO (G:=G) J (z:=z) (y:=y) (a:=a) (b:=b) (by omega) (by omega) (by omega)
   refine ⟨z1,z2,?_⟩
   rw [Zab G T J.A.Zgb]
   clear ha hb hab
   repeat' (first | simp only [seval,exC,Zdh,h1,h2,hl0,c1,hb2,hz] | simp (disch:=omega) only [dxB])
theorem Zxj (J : Al G T g) {h : Heap} {b N : Nat} {Q X l0 : List Nat} {zq zx : Bool} {va : AV} (H : Holds h b l0) (dQ : Dg Q) (dX : Dg X) (hs : N < 17179869184) : ∀ (m i : Nat) (l : List Nat) (c : Nat),m + i = N→l.length = N→Dg l→c≤1→val (l.take i) + 4294967296 ^ i * c = val (Q.take i) + val (X.take i) →
  Post (evL G T Zhq [(0,va),(5,D zx X),(6,D zq Q),(9,.own b 0 N 1),(10,.int .u32 (c : Int)),(42,.int .i64 (N : Int)),(43,.int .i64 (i : Int))] (put h b l)) fun r =>
   ∃ e l' c',r = (.exit 2,(0,va) :: (5,D zx X) :: (6,D zq Q) :: (9,.own b 0 N 1) :: (10,.int .u32 ((c' : Nat) : Int)) :: e,put h b l')∧l'.length = N∧Dg l'∧val l' + 4294967296 ^ N * c' = val (Q.take N) + val (X.take N)
 | 0,i,l,c,hm,hl,dl',hc,he => by
  rw [Zae G T (c:=Zhq) rfl]
  have h1 : ¬ (i : Int) < (N : Int):=by omega
  repeat (first | simp only [seval,evB,ZdB,h1] | simp (disch:=omega) only [dsB])
  obtain rfl : i = N:=by omega
  rw [List.take_of_length_le (by omega)] at he
  exact Post.some ⟨_,_,_,rfl,hl,dl',he⟩
 | m + 1,i,l,c,hm,hl,dl',hc,he => by
  rw [Zae G T (c:=Zhq) rfl]
  have h1 : (i : Int) < (N : Int):=by omega
  have e7 : (i : Int) + 1 = ((i + 1 : Nat) : Int):=by omega
  have HU:=H.put l
  have hx:=dX.dg i
  have hq:=dQ.dg i
  obtain ⟨d,z,hd1,hz,hdz⟩:=Zyi hq hx hc
  have call:=ZjH (G:=G) J hq hx hc hd1 hz hdz
  have st:=ZcU HU (i:=i) (x:=d) (by omega)
  rw [ZlP] at st
  have fin:=Zxj J (zq:=zq) (zx:=zx) (va:=va) H dQ dX hs m (i + 1) (l.set i d) z (by omega) (by rw [List.length_set]; exact hl) (ZeB dl' hd1) hz (by
   rw [Zxl (by omega),Zad,Zad]
   exact Zpy (by rw [List.length_take]; omega) he (by omega))
  by_cases c1 : (i : Int) < (Q.length : Int)
  ·by_cases c2 : (i : Int) < (X.length : Int)
   ·repeat (first | simp only [seval,evB,ZdB,h1,c1,c2,e7,call,st] | simp (disch:=omega) only [dsB])
    exact fin
   ·have z2 : dg X i = 0:=ZkW (by omega)
    rw [z2,cast0] at call
    repeat (first | simp only [seval,evB,ZdB,h1,c1,c2,e7,call,st] | simp (disch:=omega) only [dsB])
    exact fin
  ·have z1 : dg Q i = 0:=ZkW (by omega)
   rw [z1,cast0] at call
   by_cases c2 : (i : Int) < (X.length : Int)
   ·repeat (first | simp only [seval,evB,ZdB,h1,c1,c2,e7,call,st] | simp (disch:=omega) only [dsB])
    exact fin
   ·have z2 : dg X i = 0:=ZkW (by omega)
    rw [z2,cast0] at call
    repeat (first | simp only [seval,evB,ZdB,h1,c1,c2,e7,call,st] | simp (disch:=omega) only [dsB])
    exact fin
theorem newton {a x : Nat} (ha : 0 < a) (hx : 0 < x) : a < ((a / x + x) / 2 + 1) * ((a / x + x) / 2 + 1)∧0 < (a / x + x) / 2:=by
 have h1:=Nat.div_add_mod a x
 have h2:=Nat.mod_lt a hx
 generalize hq : a / x = q at *
 constructor
 ·obtain ⟨w,hw⟩ : ∃ w,w = (q + x) / 2 + 1:=⟨_,rfl⟩
  rw [← hw]
  have h3 : q + x + 1≤2 * w:=by omega
  have h4 : (q + 1 + x) * (q + 1 + x)≤(2 * w) * (2 * w):=Nat.mul_le_mul (by omega) (by omega)
  have h5 : 4 * ((q + 1) * x)≤(q + 1 + x) * (q + 1 + x):=by
   rcases Nat.le_total (q + 1) x with h | h
   ·obtain ⟨d,rfl⟩:=Nat.exists_eq_add_of_le h
    generalize q + 1 = p
    have : (p + (p + d)) * (p + (p + d)) = 4 * (p * (p + d)) + d * d:=by
     simp only [Nat.mul_add,Nat.add_mul,Nat.mul_comm d p]; omega
    omega
   ·obtain ⟨d,hd⟩:=Nat.exists_eq_add_of_le h
    rw [hd]
    have : (x + d + x) * (x + d + x) = 4 * ((x + d) * x) + d * d:=by
     simp only [Nat.mul_add,Nat.add_mul,Nat.mul_comm d x]; omega
    omega
  have h6 : (2 * w) * (2 * w) = 4 * (w * w):=by
   rw [Nat.mul_mul_mul_comm]
  have h7 : a < (q + 1) * x:=by rw [Nat.add_mul,Nat.one_mul,Nat.mul_comm]; omega
  omega
 ·apply Classical.byContradiction
  intro hc
  have h3 : q + x≤1:=by omega
  obtain rfl : x = 1:=by omega
  obtain rfl : q = 0:=by omega
  omega
theorem ZxN {a x : Nat} (hx : 0 < x) (h : x≤(a / x + x) / 2) : x * x≤a:=by
 have h1 : x≤a / x:=by omega
 exact (Nat.le_div_iff_mul_le hx).1 h1
theorem Zuv {h : Heap} {b : Nat} {l : List Nat} (H : Holds h b l) : reachG h.mem 3 b = [b]:=by
 cases h with
 | mk bs fs => rw [rg_x,H.at_,Ztc,Ztd]
theorem Zyg {h : Heap} {b : Nat} {l : List Nat} (H : Holds h b l) (hf : FreH h) (r : AV) : FreH ⟨h.b,fz1 r [b] ++ h.f⟩:=by
 intro c hc
 rcases List.mem_append.1 hc with h1 | h1
 ·unfold fz1 at h1
  split at h1
  ·have:=List.mem_singleton.1 h1; subst this; exact H.lt
  ·exact absurd h1 List.not_mem_nil
 ·exact hf c h1
theorem ZyA {a b : Nat} : cmpN a b = 0↔a = b:=by
 unfold cmpN; split
 ·constructor <;> intro <;> omega
 ·split <;> constructor <;> intro <;> omega
theorem ZzU (J : Al G T g) {z : Bool} {a : Nat} (ha : mayL (dl a) = true) (ha0 : 0 < a) : ∀ (x : Nat) (h : Heap) (zx : Bool),FreH h→0 < x→mayL (dl x) = true→a < (x + 1) * (x + 1) →
  Post (evL G T Zku [(0,D z (dl a)),(5,D zx (dl x))] h) fun R =>
   ∃ e h' r z',R = (.ret,(2,D z' (dl r)) :: (3,.bool (decide (r * r = a))) :: (4,.int .i64 0) :: e,h')∧r * r≤a∧a < (r + 1) * (r + 1):=by
 intro x
 induction x using Nat.strongRecOn with
 | ind x ih =>
  intro h zx hf hx hmx hlt
  rw [Zae G T (c:=Zku) rfl]
  have la:=(ZaO.1 ha).1
  have lx:=(ZaO.1 hmx).1
  obtain ⟨zq,zr,hq⟩:=Zgb (G:=G) J (z:=z) (y:=zx) ha hmx (by omega)
  have hqa : a / x≤a:=Nat.div_le_self _ _
  have lq : (dl (a / x)).length≤4096:=by
   have h1:=Zap hqa
   have h2:=Zaa (a / x)
   have h3:=Zaa a
   omega
  obtain ⟨nw1,nw2⟩:=newton ha0 hx
  have nw3:=ZxN (a:=a) hx
  generalize a / x = q at *
  obtain ⟨N,hN⟩ : ∃ N,N = max (dl q).length (dl x).length + 1:=⟨_,rfl⟩
  have e1 : max ((dl q).length : Int) ((dl x).length : Int) + 1 = (N : Int):=by omega
  have H0:=ZbA hf (List.replicate N 0)
  obtain ⟨_,hr,e,l',c',rfl,hl,dl2,hv⟩:=Zxj (G:=G) (zq:=zq) (zx:=zx) (va:=D z (dl a)) J H0 (Zao q) (Zao x) (N:=N) (by omega) N 0 (List.replicate N 0) 0 (by omega) (List.length_replicate ..) (ZjF _) (by decide) (by simp [val])
  rw [ZwP H0,cast0] at hr
  rw [List.take_of_length_le (by omega),List.take_of_length_le (by omega),ZaE,ZaE] at hv
  have hl4:=ZfN dl2
  rw [hl] at hl4
  have hsum : q + x < 4294967296 ^ N:=by
   have h1 : q < 4294967296 ^ (N - 1):=Zcl.1 (by omega)
   have h2 : x < 4294967296 ^ (N - 1):=Zcl.1 (by omega)
   have h3 : 4294967296 ^ N = 4294967296 ^ (N - 1) * 4294967296:=by rw [← Nat.pow_succ,show (N - 1).succ = N by omega]
   rw [h3]; omega
  have hval : val l' = q + x:=by
   rcases Nat.eq_zero_or_pos c' with h1 | h1
   ·subst h1; rw [Nat.mul_zero] at hv; omega
   ·have : 4294967296 ^ N * 1≤4294967296 ^ N * c':=Nat.mul_le_mul_left _ h1
    omega
  have H1:=H0.put l'
  have hsn:=Zch H1 (n:=N) (by omega)
  rw [← hl,List.take_length,hl] at hsn
  obtain ⟨z1,hz1⟩:=Zcg (G:=G) J (z:=false) dl2 (by omega)
  rw [hval] at hz1
  have lsum : (dl (q + x)).length≤N:=Zcl.2 hsum
  obtain ⟨z2,hz2⟩:=ZnX (G:=G) J (z:=z1) (a:=q + x) (n:=1) (by omega) (by decide)
  rw [Nat.pow_one,show ((1 : Nat) : Int) = 1 from rfl] at hz2
  generalize hy : (q + x) / 2 = y at *
  have ly : (dl y).length≤N:=by
   have h1:=Zap (a:=y) (b:=q + x) (by omega)
   have h2:=Zaa y
   have h3:=Zaa (q + x)
   omega
  have hc:=Zno (G:=G) J (z:=z2) (y:=zx) (a:=y) (b:=x) (by omega) (by omega)
  have hf2 : FreH ⟨(put (new h (List.replicate N 0)) h.b.length l').b,fz1 (D z1 (dl (q + x))) [h.b.length] ++ (put (new h (List.replicate N 0)) h.b.length l').f⟩:=Zyg H1 ((hf.new _).put _ _) _
  have hre:=Zuv H1
  by_cases c1 : y < x
  ·have c2 : ¬ 0≤cmpN y x:=by have:=ZdK.2 c1; omega
   have hmy : mayL (dl y) = true:=by
    rw [ZaO]; refine ⟨?_,ZDL _⟩
    have h1:=Zap (Nat.le_of_lt c1)
    have h2:=Zaa y
    have h3:=Zaa x
    omega
   have fin:=ih y c1 _ z2 hf2 nw2 hmy nw1
   clear nw1 nw3 ih hv hl4 hsum hlt hy
   repeat (first | simp only [seval,evB,Zkt,hq,ZlI,e1,hr,hsn,hz1,hz2,hc,c2,ZoM,hre] | simp (disch:=omega) only [dsB])
   exact fin
  ·have c2 : 0≤cmpN y x:=by
    have : ¬ cmpN y x < 0:=fun hh => c1 (ZdK.1 hh)
    omega
   obtain ⟨z3,hz3⟩:=ZsP (G:=G) J (z:=zx) (y:=zx) (a:=x) (b:=x) (by omega)
   have lxx : (dl (x * x)).length≤8192:=by
    have h1:=Zaa (x * x)
    have h2:=Zaa x
    have h3 : blen (x * x)≤blen x + blen x:=by
     rw [Zaf,Nat.pow_add]
     exact Nat.mul_lt_mul'' (Zbo x) (Zbo x)
    omega
   have hc3:=Zno (G:=G) J (z:=z3) (y:=z) (a:=x * x) (b:=a) (by omega) (by omega)
   have hd : decide (cmpN (x * x) a = 0) = decide (x * x = a):=decide_eq_decide.2 ZyA
   have fin:=nw3 (by omega)
   clear nw1 nw3 ih hv hl4 hsum hy
   repeat (first | simp only [seval,evB,Zkt,hq,ZlI,e1,hr,hsn,hz1,hz2,hc,c2,ZoM,hre,hz3,hc3,hd] | simp (disch:=omega) only [dsB])
   exact Post.some ⟨_,_,_,_,rfl,fin,hlt⟩
theorem ZpJ (J : Al G T g) {z : Bool} {a : Nat} (ha : mayL (dl a) = true) :
  ∃ r z',run G T 81 [D z (dl a)] = some (.tup [D z' (dl r),.bool (decide (r * r = a)),.int .i64 0])∧r * r≤a∧a < (r + 1) * (r + 1):=by
 have la:=(ZaO.1 ha).1
 have h1:=ZbJ (G:=G) J z (dl a)
 rw [ha] at h1
 by_cases h0 : a = 0
 ·subst h0
  rw [Zai] at *
  refine ⟨0,true,?_,by decide,by decide⟩
  rw [Zab G T J.A.ZpJ,Zai]
  clear la ha
  repeat' (first | simp only [seval,exC,ZjO,h1] | simp (disch:=omega) only [dxB])
  rfl
 ·have hl : ¬ ((dl a).length : Int) = 0:=fun hc => h0 (Zan.1 (by omega))
  have h2:=ZfG (G:=G) J (z:=z) ha
  have hb : blen a≤131072:=ZdM ha
  have w1 : ((blen a : Nat) : Int) + 1 = ((blen a + 1 : Nat) : Int):=by omega
  have w2 : ((blen a + 1 : Nat) : Int).tdiv 2 = (((blen a + 1) / 2 : Nat) : Int):=rfl
  have w3 : ((blen a + 1 : Nat) : Int) / 2 = (((blen a + 1) / 2 : Nat) : Int):=rfl
  have ltb:=Zbo a
  have hk : blen a≤2 * ((blen a + 1) / 2):=by omega
  have hk2 : (blen a + 1) / 2≤65536:=by omega
  generalize (blen a + 1) / 2 = k at *
  have d1 : dl 1 = [1]:=by rw [ZnQ (by decide),Nat.mod_eq_of_lt (by decide),Nat.div_eq_of_lt (by decide),Zai]
  obtain ⟨zx,hz⟩:=Zum (G:=G) J (z:=false) (a:=1) (n:=k) (by rw [d1]; decide) (by omega)
  rw [Nat.one_mul,d1] at hz
  have hz2 : run G T 91 [.imm 1 [.int .u32 1],.int .i64 (k : Int)] = some (D zx (dl (2 ^ k))):=hz
  have H0 : Holds ⟨[⟨[.int .u32 1],false⟩],[]⟩ 0 [1]:=⟨rfl,rfl⟩
  have hre:=Zuv H0
  have hf : FreH ⟨[⟨[.int .u32 1],false⟩],fz1 (D zx (dl (2 ^ k))) [0] ++ []⟩:=Zyg H0 (fun c hc => absurd hc List.not_mem_nil) _
  rw [List.append_nil] at hf
  have hmx : mayL (dl (2 ^ k)) = true:=Zak (by
   have:=ZEe (n:=2 ^ k) (k:=k) (Nat.le_refl _) (Nat.pow_lt_pow_right (by decide) (Nat.lt_succ_self k)); omega)
  have hlt : a < (2 ^ k + 1) * (2 ^ k + 1):=by
   have e1 : a < 2 ^ k * 2 ^ k:=by
    rw [← Nat.pow_add]
    exact Nat.lt_of_lt_of_le ltb (Nat.pow_le_pow_right (by decide) (by omega))
   exact Nat.lt_of_lt_of_le e1 (Nat.mul_le_mul (by omega) (by omega))
  obtain ⟨_,hr,e,h',r,z',rfl,p1,p2⟩:=ZzU (G:=G) J (z:=z) ha (by omega) (2 ^ k) _ zx hf (Nat.two_pow_pos k) hmx hlt
  refine ⟨r,z',?_,p1,p2⟩
  rw [Zab G T J.A.ZpJ]
  clear ltb hk hlt hmx p1 p2 ha hf
  repeat' (first | simp only [seval,exC,ZjO,h1,h2,hl,w1,w2,w3,hz,hz2,hre,hr] | simp (disch:=omega) only [dxB])
theorem ZFO {l : List Nat} {k s Q : Nat} (dl' : Dg l) (hk : k < l.length) (hs : s < 32) (hv : val l = Q * 2 ^ (32 * k + s + 1)) :
  dg l k ||| 2 ^ s = dg l k + 2 ^ s∧dg l k + 2 ^ s < 4294967296∧val (l.set k (dg l k + 2 ^ s)) = (2 * Q + 1) * 2 ^ (32 * k + s):=by
 have h1:=Zpw dl' k
 rw [hv,pow32,show 32 * k + s + 1 = s + 1 + 32 * k by omega,Nat.pow_add,← Nat.mul_assoc,Nat.mul_div_cancel _ (Nat.two_pow_pos _)] at h1
 have e : (4294967296 : Nat) = 2 ^ (31 - s) * 2 ^ (s + 1):=by rw [← Nat.pow_add,show 31 - s + (s + 1) = 32 by omega]
 have h2 : Q * 2 ^ (s + 1) % 4294967296 = Q % 2 ^ (31 - s) * 2 ^ (s + 1):=by rw [e,Nat.mul_mod_mul_right]
 rw [h2] at h1
 have h3 : Q % 2 ^ (31 - s) < 2 ^ (31 - s):=Nat.mod_lt _ (Nat.two_pow_pos _)
 have h4 : (Q % 2 ^ (31 - s) + 1) * 2 ^ (s + 1)≤4294967296:=by rw [e]; exact Nat.mul_le_mul_right _ h3
 have h5 : 2 ^ s < 2 ^ (s + 1):=Nat.pow_lt_pow_right (by decide) (Nat.lt_succ_self s)
 refine ⟨?_,?_,?_⟩
 ·rw [h1,Nat.or_comm,ZmX h5,Nat.add_comm]
 ·rw [h1]; rw [Nat.add_mul,Nat.one_mul] at h4; omega
 ·have h6:=ZnB (l:=l) (j:=k) (dg l k + 2 ^ s) hk
  rw [Nat.mul_add] at h6
  have h7 : val (l.set k (dg l k + 2 ^ s)) = val l + 4294967296 ^ k * 2 ^ s:=by omega
  rw [h7,hv,pow32,← Nat.pow_add,Nat.pow_succ,Nat.add_mul,Nat.one_mul,← Nat.mul_assoc,Nat.mul_comm 2 Q,Nat.mul_assoc Q 2,Nat.mul_comm 2,Nat.mul_assoc]
theorem ZAU {a i : Nat} : a / 2 ^ i = 2 * (a / 2 ^ (i + 1)) + a / 2 ^ i % 2:=by
 rw [Nat.pow_succ,← Nat.div_div_eq_div_mul]; omega
theorem ZCi {h : Heap} {b : Nat} {l : List Nat} {d : Bool} (H : h.b[b]? = some ⟨cells l,d⟩) : reachG h.mem 3 b = [b]:=by
 cases h with
 | mk bs fs => rw [rg_x]; simp only at H; rw [H,Ztc,Ztd]
def boxed (h : Heap) (r : AV) : Heap:=⟨h.b ++ [⟨[.int .u32 1],false⟩],fz1 r [h.b.length] ++ h.f⟩
theorem Holds.boxed {h : Heap} {b : Nat} {l : List Nat} (H : Holds h b l) (r : AV) : Holds (boxed h r) b l:=by
 refine ⟨by simp only [Cv.boxed]; rw [List.getElem?_append_left H.lt]; exact H.at_,?_⟩
 have h1:=H.lt
 have h2:=H.fre
 rw [Bool.eq_false_iff] at h2 ⊢
 intro hc
 rcases List.mem_append.1 (List.contains_iff_mem.1 hc) with h3 | h3
 ·unfold fz1 at h3
  split at h3
  ·have:=List.mem_singleton.1 h3; omega
  ·exact absurd h3 List.not_mem_nil
 ·exact h2 (List.contains_iff_mem.2 h3)
theorem ZrM (h : Heap) : snapG (Heap.mem ⟨h.b ++ [⟨[.int .u32 1],false⟩],h.f⟩) 3 h.b.length 0 1 1 = some (D false [1]):=by
 have e : (Heap.mem ⟨h.b ++ [⟨[.int .u32 1],false⟩],h.f⟩) h.b.length = some ⟨cells [1],false⟩:=by
  simp [Heap.mem,cells]
 exact Zov (d:=2) (l:=[1]) (by rw [rdBlk,e]; rfl) rfl
theorem Zvf (h : Heap) : reachG (Heap.mem ⟨h.b ++ [⟨[.int .u32 1],false⟩],h.f⟩) 3 h.b.length = [h.b.length] :=
 ZCi (h:=⟨h.b ++ [⟨[.int .u32 1],false⟩],h.f⟩) (l:=[1]) (d:=false) (by simp [cells])
theorem Zoc (J : Al G T g) {a b bq N : Nat} {z y : Bool} (ha : (dl a).length < 8589934592) (hb : 0 < b) (hN : N = (dl a).length) (hbl : (dl b).length < 8589934592) : ∀ (j : Nat) (h : Heap) (l : List Nat) (zr : Bool) (Q R : Nat),
  j≤32 * N→Holds h bq l→Dg l→l.length = N→R < b→a / 2 ^ j = Q * b + R→val l = Q * 2 ^ j →
  Post (evL G T ZdD [(0,D z (dl a)),(1,D y (dl b)),(6,.own bq 0 N 1),(8,D zr (dl R)),(10,.int .i64 ((j : Int) - 1))] h) fun r =>
   ∃ e h' l' zr' R',r = (.exit 0,(0,D z (dl a)) :: (1,D y (dl b)) :: (6,.own bq 0 N 1) :: (8,D zr' (dl R')) :: e,h')∧Holds h' bq l'∧Dg l'∧l'.length = N∧R' < b∧a = val l' * b + R'
 | 0,h,l,zr,Q,R,hj,H,dL,hl,hR,he,hv => by
  rw [Zae G T (c:=ZdD) rfl]
  have c1 : ¬ (0 : Int)≤((0 : Nat) : Int) - 1:=by omega
  repeat (first | simp only [seval,evB,Zbv,c1] | simp (disch:=omega) only [dsB])
  rw [Nat.pow_zero,Nat.div_one] at he
  rw [Nat.pow_zero,Nat.mul_one] at hv
  exact Post.some ⟨_,_,_,_,_,rfl,H,dL,hl,hR,by rw [hv]; exact he⟩
 | i + 1,h,l,zr,Q,R,hj,H,dL,hl,hR,he,hv => by
  rw [Zae G T (c:=ZdD) rfl]
  have e1 : ((i + 1 : Nat) : Int) - 1 = (i : Int):=by omega
  have c1 : (0 : Int)≤(i : Int):=by omega
  have lR : (dl R).length < 8589934592:=by
   have h1:=Zap (Nat.le_of_lt hR)
   have h2:=Zaa R
   have h3:=Zaa b
   omega
  obtain ⟨z1,u1⟩:=ZfH (G:=G) J (z:=zr) (a:=R) (n:=1) (by omega) (by decide)
  rw [Nat.pow_one,show ((1 : Nat) : Int) = 1 from rfl] at u1
  have u2:=ZjZ (G:=G) J (z:=z) (a:=a) (i:=i) (by omega) (by omega)
  have hbd:=ZAU (a:=a) (i:=i)
  have hbit : a / 2 ^ i % 2 < 2:=Nat.mod_lt _ (by decide)
  rw [he] at hbd
  generalize a / 2 ^ i % 2 = t at *
  have lR2 : (dl (R * 2)).length < 17179869184:=by
   have h1:=Zap (a:=R * 2) (b:=b * 2 ^ 1) (by omega)
   rw [Zav (by omega)] at h1
   have h2:=Zaa (R * 2)
   have h3:=Zaa b
   omega
  have lR3 : (dl (R * 2 + 1)).length < 17179869184:=by
   have h1:=Zap (a:=R * 2 + 1) (b:=b * 2 ^ 1) (by omega)
   rw [Zav (by omega)] at h1
   have h2:=Zaa (R * 2 + 1)
   have h3:=Zaa b
   omega
  obtain ⟨z2,u3⟩:=ZgT (G:=G) J (z:=z1) (y:=false) (a:=R * 2) (b:=1) (by omega) (by rw [Zpp]; decide)
  rw [Zpp] at u3
  have hi32 : i / 32 < l.length:=by omega
  have hii : 32 * (i / 32) + i % 32 = i:=by omega
  obtain ⟨s1,s2,s3⟩:=ZFO (s:=i % 32) (Q:=Q) dL hi32 (by omega) (by rw [hii]; exact hv)
  rw [hii] at s3
  have w1 : (i : Int).tdiv 32 = ((i / 32 : Nat) : Int):=rfl
  have w2 : (i : Int).tmod 32 = ((i % 32 : Nat) : Int):=rfl
  have w3 : min (i % 32) 32 = i % 32:=by omega
  have p31 : 2 ^ (i % 32) < 4294967296:=Nat.lt_of_lt_of_le (Nat.pow_lt_pow_right (a:=2) (by decide) (show i % 32 < 32 by omega)) (by decide)
  have w4 : (1 : Int) * 2 ^ (i % 32) % 4294967296 = ((2 ^ (i % 32) : Nat) : Int):=by rw [Int.one_mul,Zbb]; exact Int.emod_eq_of_lt (Int.natCast_nonneg _) (Int.ofNat_lt.2 p31)
  have w5:=or32 (dL.dg (i / 32)) p31
  rw [s1] at w5
  rw [e1]
  by_cases ht : t = 1
  ·subst ht
   have c2 : (((1 : Nat) : Int)) = 1:=rfl
   have HB:=H.boxed (D z2 (dl (R * 2 + 1)))
   have cm:=Zka (G:=G) J (z:=z2) (y:=y) (a:=R * 2 + 1) (b:=b) (by omega) (by omega)
   have sn:=ZrM h
   have rc:=Zvf h
   by_cases c3 : R * 2 + 1 < b
   ·have c4 : ¬ 0≤cmpN (R * 2 + 1) b:=by have:=ZdK.2 c3; omega
    have fin:=Zoc J (z:=z) (y:=y) ha hb hN hbl i _ l z2 (2 * Q) (R * 2 + 1) (by omega) HB dL hl c3 (by rw [hbd,Nat.mul_add,← Nat.mul_assoc]; omega) (by rw [hv,Nat.pow_succ,Nat.mul_comm 2 Q,Nat.mul_assoc,Nat.mul_comm 2])
    clear he hv hbd s1 s2 s3
    simp only [boxed] at fin
    repeat (first | simp only [seval,evB,Zbv,c1,u1,u2,c2,sn,u3,rc,ZoM,cm,c4] | simp (disch:=omega) only [dsB])
    exact fin
   ·have c4 : 0≤cmpN (R * 2 + 1) b:=by
     have : ¬ cmpN (R * 2 + 1) b < 0:=fun hh => c3 (ZdK.1 hh)
     omega
    obtain ⟨z3,u4⟩:=Zit (G:=G) J (z:=z2) (y:=y) (a:=R * 2 + 1) (b:=b) (by omega) (by omega)
    have st:=ZcU HB (i:=i / 32) (x:=dg l (i / 32) + 2 ^ (i % 32)) hi32
    have ld:=Zjf (G:=G) HB hi32
    have fin:=Zoc J (z:=z) (y:=y) ha hb hN hbl i _ _ z3 (2 * Q + 1) (R * 2 + 1 - b) (by omega) (HB.put (l.set (i / 32) (dg l (i / 32) + 2 ^ (i % 32)))) (ZeB dL s2) (by rw [List.length_set]; exact hl) (by omega) (by
     rw [hbd,Nat.add_mul,Nat.one_mul,Nat.mul_add,← Nat.mul_assoc]; omega) s3
    clear he hv hbd s1 s2 s3
    simp only [boxed] at fin st ld
    repeat (first | simp only [seval,evB,Zbv,c1,u1,u2,c2,sn,u3,rc,ZoM,cm,c4,u4,w1,w2,w3,w4,w5,st,ld] | simp (disch:=omega) only [dsB])
    exact fin
  ·obtain rfl : t = 0:=by omega
   have c2 : ¬ (((0 : Nat) : Int)) = 1:=by decide
   have cm:=Zka (G:=G) J (z:=z1) (y:=y) (a:=R * 2) (b:=b) (by omega) (by omega)
   by_cases c3 : R * 2 < b
   ·have c4 : ¬ 0≤cmpN (R * 2) b:=by have:=ZdK.2 c3; omega
    have fin:=Zoc J (z:=z) (y:=y) ha hb hN hbl i _ l z1 (2 * Q) (R * 2) (by omega) H dL hl c3 (by rw [hbd,Nat.mul_add,← Nat.mul_assoc]; omega) (by rw [hv,Nat.pow_succ,Nat.mul_comm 2 Q,Nat.mul_assoc,Nat.mul_comm 2])
    clear he hv hbd s1 s2 s3
    repeat (first | simp only [seval,evB,Zbv,c1,u1,u2,c2,cm,c4] | simp (disch:=omega) only [dsB])
    exact fin
   ·have c4 : 0≤cmpN (R * 2) b:=by
     have : ¬ cmpN (R * 2) b < 0:=fun hh => c3 (ZdK.1 hh)
     omega
    obtain ⟨z3,u4⟩:=Zit (G:=G) J (z:=z1) (y:=y) (a:=R * 2) (b:=b) (by omega) (by omega)
    have st:=ZcU H (i:=i / 32) (x:=dg l (i / 32) + 2 ^ (i % 32)) hi32
    have ld:=Zjf (G:=G) H hi32
    have fin:=Zoc J (z:=z) (y:=y) ha hb hN hbl i _ _ z3 (2 * Q + 1) (R * 2 - b) (by omega) (H.put (l.set (i / 32) (dg l (i / 32) + 2 ^ (i % 32)))) (ZeB dL s2) (by rw [List.length_set]; exact hl) (by omega) (by
     rw [hbd,Nat.add_mul,Nat.one_mul,Nat.mul_add,← Nat.mul_assoc]; omega) s3
    clear he hv hbd s1 s2 s3
    repeat (first | simp only [seval,evB,Zbv,c1,u1,u2,c2,cm,c4,u4,w1,w2,w3,w4,w5,st,ld] | simp (disch:=omega) only [dsB])
    exact fin
theorem Zji (J : Al G T g) {a b : Nat} {z y : Bool} (ha : (dl a).length < 8589934592) (hb : 0 < b) (hbl : (dl b).length < 8589934592) :
  ∃ z1 z2,run G T 79 [D z (dl a),D y (dl b)] = some (.tup [D z1 (dl (a / b)),D z2 (dl (a % b))]):=by
 by_cases hb1 : (dl b).length = 1
 ·have e1 : b < 4294967296:=by have:=Zcl.1 (Nat.le_of_eq hb1); simpa using this
  have hd0 : dl b = [b]:=by rw [ZnQ (by omega),Nat.mod_eq_of_lt e1,Nat.div_eq_of_lt e1,Zai]
  obtain ⟨z1,z2,hz⟩:=Zlc (G:=G) J (z:=z) (a:=a) (d:=b) hb e1 (by omega)
  have hdb : dg (dl b) 0 = b:=by rw [hd0]; rfl
  have hb1' : ((dl b).length : Int) = 1:=by omega
  refine ⟨z1,z2,?_⟩
  rw [Zab G T J.B.Zji]
  clear ha hbl
  repeat' (first | simp only [seval,exC,Zea,hb1',hdb,hz] | simp (disch:=omega) only [dxB])
 ·have hb2 : ¬ ((dl b).length : Int) = 1:=by omega
  have l1:=Zcp (G:=G) J (z:=z) (a:=a) (by omega)
  have l2:=Zcp (G:=G) J (z:=y) (a:=b) (by omega)
  obtain ⟨L,hL⟩ : ∃ L,L = blen a + 1 - blen b:=⟨_,rfl⟩
  have hla:=Zaa a
  have hlb:=Zaa b
  have hbp:=ZcV (n:=b) (by omega)
  have ww1 : IntKind.i64.wrap ((blen a : Int) - (blen b : Int)) = (blen a : Int) - (blen b : Int):=Zac (by omega)
  have ww2 : IntKind.i64.wrap ((blen a : Int) - (blen b : Int) + 1) = (blen a : Int) - (blen b : Int) + 1:=Zac (by omega)
  have ww3 : IntKind.i64.wrap ((L : Int) - 1) = (L : Int) - 1:=Zac (by omega)
  have e1 : max (0 : Int) ((blen a : Int) - (blen b : Int) + 1) = (L : Int):=by omega
  obtain ⟨z3,hd⟩:=ZhN (G:=G) J (z:=z) (a:=a) (n:=L) (by omega) (by omega)
  have hR : a / 2 ^ L < b:=by
   have h1:=Zaj a L
   have h2:=ZcV (n:=b) (by omega)
   have h3 : a / 2 ^ L < 2 ^ (blen b - 1):=Zaf.1 (by omega)
   exact Nat.lt_of_lt_of_le h3 (ZbD (by omega))
  have H0:=ZbA FreH.nil (List.replicate (dl a).length 0)
  obtain ⟨_,hr,e,h',l',zr',R',rfl,H,dL,hl,hR',he⟩:=Zoc (G:=G) (z:=z) (y:=y) (a:=a) (b:=b) (N:=(dl a).length) J (by omega) hb rfl (by omega) L (new .nil (List.replicate (dl a).length 0)) (List.replicate (dl a).length 0) z3 0 (a / 2 ^ L) (by omega) H0 (ZjF _) (List.length_replicate ..) hR (by rw [Nat.zero_mul,Nat.zero_add]) (by rw [Ztq,Nat.zero_mul])
  obtain ⟨k1,k2⟩:=Zlz hR' he
  have hsn:=Zch H (n:=(dl a).length) (by omega)
  rw [← hl,List.take_length,hl] at hsn
  obtain ⟨z1,hz1⟩:=ZcQ (G:=G) J (z:=false) dL (by omega)
  refine ⟨z1,zr',?_⟩
  rw [← k1,← k2,Zab G T J.B.Zji]
  simp only [nilb,List.length_nil] at hr hsn
  clear hR hR' he k1 k2 hL hla hlb hbp
  repeat' (first | simp only [seval,exC,Zea,hb2,l1,l2,e1,hd,hr,hsn,hz1,ZlI,ww1,ww2,ww3] | simp (disch:=omega) only [dxB])
theorem ZyX {a i : Nat} : a / 2 ^ i = 4 * (a / 2 ^ (i + 2)) + (2 * (a / 2 ^ (i + 1) % 2) + a / 2 ^ i % 2):=by
 rw [Nat.pow_succ,Nat.pow_succ,← Nat.div_div_eq_div_mul,← Nat.div_div_eq_div_mul]; omega
theorem ZCl {r s v p : Nat} (h : p = r * r + s) (hs : s≤2 * r) (hv : v < 4) (hc : 4 * r + 1≤4 * s + v) :
  4 * p + v = (2 * r + 1) * (2 * r + 1) + (4 * s + v - (4 * r + 1))∧4 * s + v - (4 * r + 1)≤2 * (2 * r + 1):=by
 have e : (2 * r + 1) * (2 * r + 1) = 4 * (r * r) + 4 * r + 1:=by
  simp only [Nat.mul_add,Nat.add_mul,Nat.mul_one,Nat.one_mul]
  have : 2 * r * (2 * r) = 4 * (r * r):=by rw [Nat.mul_mul_mul_comm]
  omega
 rw [e,h]; omega
theorem ZFE {r s v p : Nat} (h : p = r * r + s) (hc : 4 * s + v < 4 * r + 1) :
  4 * p + v = (2 * r) * (2 * r) + (4 * s + v)∧4 * s + v≤2 * (2 * r):=by
 have e : 2 * r * (2 * r) = 4 * (r * r):=by rw [Nat.mul_mul_mul_comm]
 rw [e,h]; omega
theorem ZCk {r s a : Nat} (h : a = r * r + s) (hs : s≤2 * r) : r * r≤a∧a < (r + 1) * (r + 1)∧(s = 0↔r * r = a):=by
 have e : (r + 1) * (r + 1) = r * r + 2 * r + 1:=by
  simp only [Nat.mul_add,Nat.add_mul,Nat.mul_one,Nat.one_mul]; omega
 rw [e]; omega
theorem Zrg {r t a : Nat} (h1 : r * r≤a) (h2 : a < (r + 1) * (r + 1)) (h3 : t * t≤a) (h4 : a < (t + 1) * (t + 1)) : r = t:=by
 rcases Nat.lt_trichotomy r t with h | h | h
 ·have : (r + 1) * (r + 1)≤t * t:=Nat.mul_le_mul h h
  omega
 ·exact h
 ·have : (t + 1) * (t + 1)≤r * r:=Nat.mul_le_mul h h
  omega
theorem Zwb (bs : List Blk) (f : List Nat) : snapG (Heap.mem ⟨bs ++ [⟨[.int .u32 1],false⟩],f⟩) 3 bs.length 0 1 1 = some (D false [1]):=ZrM ⟨bs,f⟩
theorem ZJr {x k : Nat} (h : x < 2 ^ k) : (dl x).length≤(k + 31) / 32:=by
 have h1:=Zaa x
 have h2:=Zaf.2 h
 omega
theorem Zpd (J : Al G T g) {a : Nat} {z : Bool} (ha : (dl a).length < 1073741824) : ∀ (j : Nat) (h : Heap) (zr zs : Bool) (r s : Nat),
  2 * j < 68719476736→a / 2 ^ (2 * j) = r * r + s→s≤2 * r →
  Post (evL G T Zdl [(0,D z (dl a)),(4,D zr (dl r)),(5,D zs (dl s)),(7,.int .i64 (2 * (j : Int) - 2))] h) fun R =>
   ∃ e h' zr' zs' r' s',R = (.exit 0,(0,D z (dl a)) :: (4,D zr' (dl r')) :: (5,D zs' (dl s')) :: e,h')∧a = r' * r' + s'∧s'≤2 * r'
 | 0,h,zr,zs,r,s,hj,he,hs => by
  rw [Zae G T (c:=Zdl) rfl]
  have c1 : ¬ (0 : Int)≤2 * ((0 : Nat) : Int) - 2:=by omega
  repeat (first | simp only [seval,evB,Zfb,c1] | simp (disch:=omega) only [dsB])
  rw [Nat.mul_zero,Nat.pow_zero,Nat.div_one] at he
  exact Post.some ⟨_,_,_,_,_,_,rfl,he,hs⟩
 | j + 1,h,zr,zs,r,s,hj,he,hs => by
  rw [Zae G T (c:=Zdl) rfl]
  have e1 : 2 * ((j + 1 : Nat) : Int) - 2 = ((2 * j : Nat) : Int):=by omega
  have e2 : ((2 * j : Nat) : Int) - 2 = 2 * (j : Int) - 2:=by omega
  have e3 : ((2 * j : Nat) : Int) + 1 = ((2 * j + 1 : Nat) : Int):=by omega
  have c1 : (0 : Int)≤((2 * j : Nat) : Int):=by omega
  have u1:=ZjZ (G:=G) J (z:=z) (a:=a) (i:=2 * j + 1) (by omega) (by omega)
  have u0:=ZjZ (G:=G) J (z:=z) (a:=a) (i:=2 * j) (by omega) (by omega)
  have hfd:=ZyX (a:=a) (i:=2 * j)
  rw [show 2 * j + 2 = 2 * (j + 1) by omega,he] at hfd
  have b1 : a / 2 ^ (2 * j + 1) % 2 < 2:=Nat.mod_lt _ (by decide)
  have b0 : a / 2 ^ (2 * j) % 2 < 2:=Nat.mod_lt _ (by decide)
  generalize a / 2 ^ (2 * j + 1) % 2 = t1 at *
  generalize a / 2 ^ (2 * j) % 2 = t0 at *
  have hra : r * r≤a:=by
   have:=Nat.div_le_self a (2 ^ (2 * (j + 1))); omega
  have hr0 : r≤a:=Nat.le_trans (Nat.le_mul_self r) hra
  have lr : ∀ x,x≤16 * a + 16→(dl x).length < 1073741900:=fun x hx => by
   have h1 : a < 2 ^ blen a:=Zbo a
   have h2:=ZJr (x:=x) (k:=blen a + 6) (by rw [Nat.pow_add]; omega)
   have h3:=Zaa a
   omega
  have w1 : mulW 2 (t1 : Int) = ((2 * t1 : Nat) : Int):=by rw [Zvp]; omega
  have w2 : (((2 * t1 : Nat) : Int) + (t0 : Int)) % 4294967296 = ((2 * t1 + t0 : Nat) : Int):=by omega
  have w3 : ((2 * t1 + t0 : Nat) : Int) % 18446744073709551616 = ((2 * t1 + t0 : Nat) : Int):=by omega
  obtain ⟨z1,v1⟩:=ZfH (G:=G) J (z:=zs) (a:=s) (n:=2) (by have:=lr s (by omega); omega) (by decide)
  obtain ⟨z2,v2⟩:=Zjh (G:=G) J (n:=2 * t1 + t0) (by omega)
  obtain ⟨z3,v3⟩:=ZgT (G:=G) J (z:=z1) (y:=z2) (a:=s * 2 ^ 2) (b:=2 * t1 + t0) (by have:=lr (s * 2 ^ 2) (by omega); omega) (by have:=lr (2 * t1 + t0) (by omega); omega)
  obtain ⟨z4,v4⟩:=ZfH (G:=G) J (z:=zr) (a:=r) (n:=2) (by have:=lr r (by omega); omega) (by decide)
  obtain ⟨z5,v5⟩:=ZgT (G:=G) J (z:=z4) (y:=false) (a:=r * 2 ^ 2) (b:=1) (by have:=lr (r * 2 ^ 2) (by omega); omega) (by rw [Zpp]; decide)
  obtain ⟨z6,v6⟩:=ZfH (G:=G) J (z:=zr) (a:=r) (n:=1) (by have:=lr r (by omega); omega) (by decide)
  obtain ⟨z7,v7⟩:=ZgT (G:=G) J (z:=z6) (y:=false) (a:=r * 2 ^ 1) (b:=1) (by have:=lr (r * 2 ^ 1) (by omega); omega) (by rw [Zpp]; decide)
  have cm:=Zka (G:=G) J (z:=z3) (y:=z5) (a:=s * 2 ^ 2 + (2 * t1 + t0)) (b:=r * 2 ^ 2 + 1) (by have:=lr (s * 2 ^ 2 + (2 * t1 + t0)) (by omega); omega) (by have:=lr (r * 2 ^ 2 + 1) (by omega); omega)
  rw [Zpp] at v5 v7
  rw [show ((2 : Nat) : Int) = 2 from rfl] at v1 v4
  rw [show ((1 : Nat) : Int) = 1 from rfl] at v6
  rw [e1]
  by_cases c2 : s * 2 ^ 2 + (2 * t1 + t0) < r * 2 ^ 2 + 1
  ·have c3 : ¬ 0≤cmpN (s * 2 ^ 2 + (2 * t1 + t0)) (r * 2 ^ 2 + 1):=by have:=ZdK.2 c2; omega
   obtain ⟨p1,p2⟩:=ZFE (p:=r * r + s) (v:=2 * t1 + t0) rfl (by omega)
   have fin:=fun h => Zpd J (z:=z) ha j h z6 z3 (r * 2 ^ 1) (s * 2 ^ 2 + (2 * t1 + t0)) (by omega) (by rw [hfd,p1,show r * 2 ^ 1 = 2 * r by omega,show s * 2 ^ 2 = 4 * s by omega]) (by omega)
   clear hfd he hra hr0 lr p1 p2 hs c2
   repeat (first | simp only [seval,evB,Zfb,c1,e2,e3,u1,u0,w1,w2,w3,v1,v2,v3,v4,v5,v6,Zwb,cm,c3] | simp (disch:=omega) only [dsB])
   exact fin _
  ·have c3 : 0≤cmpN (s * 2 ^ 2 + (2 * t1 + t0)) (r * 2 ^ 2 + 1):=by
    have : ¬ cmpN (s * 2 ^ 2 + (2 * t1 + t0)) (r * 2 ^ 2 + 1) < 0:=fun hh => c2 (ZdK.1 hh)
    omega
   obtain ⟨z8,v8⟩:=Zit (G:=G) J (z:=z3) (y:=z5) (a:=s * 2 ^ 2 + (2 * t1 + t0)) (b:=r * 2 ^ 2 + 1) (by have:=lr (s * 2 ^ 2 + (2 * t1 + t0)) (by omega); omega) (by omega)
   obtain ⟨p1,p2⟩:=ZCl (p:=r * r + s) (v:=2 * t1 + t0) rfl hs (by omega) (by omega)
   have fin:=fun h => Zpd J (z:=z) ha j h z7 z8 (r * 2 ^ 1 + 1) (s * 2 ^ 2 + (2 * t1 + t0) - (r * 2 ^ 2 + 1)) (by omega) (by rw [hfd,p1,show r * 2 ^ 1 = 2 * r by omega,show s * 2 ^ 2 = 4 * s by omega,show r * 2 ^ 2 = 4 * r by omega]) (by omega)
   clear hfd he hra hr0 lr p1 p2 hs c2
   repeat (first | simp only [seval,evB,Zfb,c1,e2,e3,u1,u0,w1,w2,w3,v1,v2,v3,v4,v5,v6,v7,v8,Zwb,cm,c3] | simp (disch:=omega) only [dsB])
   exact fin _
theorem ZoR (J : Al G T g) {a : Nat} {z : Bool} (ha : (dl a).length < 1073741824) :
  ∃ r z',run G T 82 [D z (dl a)] = some (.tup [D z' (dl r),.bool (decide (r * r = a))])∧r * r≤a∧a < (r + 1) * (r + 1):=by
 have hla:=Zaa a
 have l1:=Zcp (G:=G) J (z:=z) (a:=a) (by omega)
 obtain ⟨j,hj⟩ : ∃ j,j = (blen a + 1) / 2:=⟨_,rfl⟩
 have h0 : a / 2 ^ (2 * j) = 0 * 0 + 0:=by
  rw [Nat.div_eq_of_lt (Nat.lt_of_lt_of_le (Zbo a) (Nat.pow_le_pow_right (by decide) (by omega)))]
 obtain ⟨_,hr,e,h',zr',zs',r',s',rfl,he,hs⟩:=Zpd (G:=G) (z:=z) J ha j .nil true true 0 0 (by omega) h0 (by decide)
 obtain ⟨p1,p2,p3⟩:=ZCk he hs
 have hr : evL G T Zdl [(0,D z (dl a)),(4,.nil),(5,.nil),(7,.int .i64 (2 * (j : Int) - 2))] ⟨[],[]⟩ = some (Ex.exit 0,(0,D z (dl a)) :: (4,D zr' (dl r')) :: (5,D zs' (dl s')) :: e,h'):=by
  rw [Zai] at hr; exact hr
 have hd : decide (((dl s').length : Int) = 0) = decide (r' * r' = a):=by
  refine decide_eq_decide.2 ?_
  rw [← p3,← Zan]; omega
 refine ⟨r',zr',?_,p1,p2⟩
 rw [Zab G T J.B.ZoR]
 have w1 : ((blen a : Nat) : Int).tmod 2 = ((blen a % 2 : Nat) : Int):=rfl
 have w2 : ((blen a : Nat) : Int) % 2 = ((blen a % 2 : Nat) : Int):=rfl
 by_cases ho : blen a % 2 = 1
 ·have c1 : ((blen a % 2 : Nat) : Int) = 1:=by omega
  have e1 : ((blen a : Nat) : Int) + 1 - 2 = 2 * (j : Int) - 2:=by omega
  have w3 : IntKind.i64.wrap (((blen a : Nat) : Int) + 1) = ((blen a : Nat) : Int) + 1:=Zac (by omega)
  have w4 : IntKind.i64.wrap (2 * (j : Int) - 2) = 2 * (j : Int) - 2:=Zac (by omega)
  clear h0 he hs p1 p2 p3 hla ha
  repeat' (first | simp only [seval,exC,ZgG,l1,w1,w2,c1,w3,e1,w4,hr,hd] | simp (disch:=omega) only [dxB])
 ·have c1 : ¬ ((blen a % 2 : Nat) : Int) = 1:=by omega
  have e1 : ((blen a : Nat) : Int) - 2 = 2 * (j : Int) - 2:=by omega
  have w4 : IntKind.i64.wrap (2 * (j : Int) - 2) = 2 * (j : Int) - 2:=Zac (by omega)
  clear h0 he hs p1 p2 p3 hla ha
  repeat' (first | simp only [seval,exC,ZgG,l1,w1,w2,c1,e1,w4,hr,hd] | simp (disch:=omega) only [dxB])
theorem Zmw (J : Al G T g) {n : Nat} (h : 1≤n∧n≤8192) : run G T 75 [.int .i64 (n : Int)] = some (.int .i64 0):=by
 rw [Zab G T J.C.Zmw]
 have c1 : ¬ (n : Int) < 1:=by omega
 have c2 : ¬ (8192 : Int) < (n : Int):=by omega
 repeat' (first | simp only [seval,exC,ZiB,c1,c2] | simp (disch:=omega) only [dxB])
theorem Zoh (J : Al G T g) {z : Bool} {d : Dy} {k s : Nat} (hs : (dl d.m).length < 17179869183) (he : -274877906944 < d.e∧d.e < 274877906944) (hk : blen d.m = k + s) (h0 : 0 < s) (hkk : k < 8192) (hb : blen d.m < 274877906944) :
  ∃ z',run G T 80 [DyA z d,.int .i64 (k : Int)] = some (.tup [DyA z' (mkD d.n (d.m / 2 ^ s) (d.e + s)),.bool (!decide (d.m % 2 ^ s = 0))]):=by
 obtain ⟨n,m,e⟩:=d
 simp only at *
 have l1:=Zcp (G:=G) J (z:=z) (a:=m) (by omega)
 obtain ⟨z1,h1⟩:=ZhN (G:=G) J (z:=z) (a:=m) (n:=s) (by omega) (by omega)
 have hlen : (dl (m / 2 ^ s)).length < 17179869184:=by
  have h1:=Zap (Nat.div_le_self m (2 ^ s))
  have h2:=Zaa (m / 2 ^ s)
  omega
 obtain ⟨z2,h2⟩:=ZaQ (G:=G) J (n:=n) (z:=z1) (a:=m / 2 ^ s) (e:=e + s) hlen (by omega)
 have w1 : ((blen m : Nat) : Int) - (k : Int) = (s : Int):=by omega
 have w2 : ¬ (s : Int)≤0:=by omega
 have w3 : IntKind.i64.wrap (e + (s : Int)) = e + s:=Zac (by omega)
 refine ⟨z2,?_⟩
 rw [Zab G T J.C.Zoh]
 clear hlen hk
 simp only [DyA,A3] at *
 repeat' (first | simp only [seval,exC,Zie,l1,w1,w2,w3,h1,h2] | simp (disch:=omega) only [dxB])
theorem ZnR (J : Al G T g) {z n more : Bool} {q k s : Nat} {e : Int} (hm : mayL (dl q) = true) (hk : blen q = k + s) (h0 : 0 < s) (he : -16000000 < e∧e < 16000000) :
  ∃ z',run G T 78 [.bool n,D z (dl q),.int .i64 e,.bool more,.int .i64 (k : Int)] = some (.tup [DyA z' (mkD n (q / 2 ^ s) (e + s)),.bool (!decide (q % 2 ^ s = 0) || more),.int .i64 0]):=by
 have hb:=ZdM hm
 have l1:=ZfG (G:=G) J (z:=z) hm
 obtain ⟨z1,h1⟩:=ZgA (G:=G) J (z:=z) (a:=q) (n:=s) hm h0 (by omega)
 have hbd:=Zaj q s
 have hm2 : mayL (dl (q / 2 ^ s)) = true:=Zak (by omega)
 have htz : tz (q / 2 ^ s)≤131072∨q / 2 ^ s = 0:=by
  by_cases hz : q / 2 ^ s = 0
  ·exact Or.inr hz
  ·left; have:=Zhi hz; omega
 obtain ⟨z2,h2⟩:=Zcm (G:=G) J (n:=n) (z:=z1) (a:=q / 2 ^ s) (e:=e + s) hm2 (by
  rcases htz with h | h
  ·right; omega
  ·left; exact h) (by omega)
 have w1 : max (0 : Int) ((blen q : Int) - (k : Int)) = (s : Int):=by omega
 have w2 : (0 : Int) - (s : Int) = -(s : Int):=by omega
 have w3 : IntKind.i64.wrap (e + (s : Int)) = e + s:=Zac (by omega)
 have w4 : IntKind.i64.wrap ((blen q : Int) - (k : Int)) = (blen q : Int) - (k : Int):=Zac (by omega)
 have w5 : IntKind.i64.wrap (-(s : Int)) = -(s : Int):=Zac (by omega)
 refine ⟨z2,?_⟩
 rw [Zab G T J.C.ZnR]
 clear hm2 htz hbd hk hb hm
 simp only [DyA,A3] at *
 generalize decide (q % 2 ^ s = 0) = o at *
 cases o <;> cases more <;> repeat' (first | simp only [seval,exC,Zkq,l1,w1,w2,w3,w4,w5,ZlI,h1,h2] | simp (disch:=omega) only [dxB])
def quoN (k a b : Nat) : Nat:=k + 1 + blen b - blen a
theorem ZmD {k a b : Nat} (ha : a≠0) (hb : b≠0) : k < blen (a * 2 ^ quoN k a b / b):=by
 rw [Zbn]
 have h1 : 2 ^ k * b≤a * 2 ^ quoN k a b:=by
  have e1:=Zbo b
  have e2:=ZbD ha
  have e3:=ZcV ha
  calc 2 ^ k * b≤2 ^ k * 2 ^ blen b:=Nat.mul_le_mul_left _ (Nat.le_of_lt e1)
   _ = 2 ^ (k + blen b):=(Nat.pow_add ..).symm
   _≤2 ^ (blen a - 1 + quoN k a b):=Nat.pow_le_pow_right (by decide) (by unfold quoN; omega)
   _ = 2 ^ (blen a - 1) * 2 ^ quoN k a b:=Nat.pow_add ..
   _≤a * 2 ^ quoN k a b:=Nat.mul_le_mul_right _ e2
 exact (Nat.le_div_iff_mul_le (by omega)).2 h1
theorem ZEs {Q t S : Nat} (h : t≤S) : Q / 2 ^ t / 2 ^ (S - t) = Q / 2 ^ S:=by
 rw [Nat.div_div_eq_div_mul,← Nat.pow_add,show t + (S - t) = S by omega]
theorem ZFb {Q t S : Nat} (h : t≤S) (ht : Q % 2 ^ t = 0) : Q / 2 ^ t % 2 ^ (S - t) = 0↔Q % 2 ^ S = 0:=by
 have:=Znk Q t (S - t)
 rw [show t + (S - t) = S by omega] at this
 rw [this]; exact ⟨fun h2 => ⟨ht,h2⟩,fun h2 => h2.2⟩
theorem ZEY {n : Bool} {Q t S : Nat} {e : Int} (h : Q≠0) (h2 : Q / 2 ^ t≠0) (ht : Q % 2 ^ t = 0) : mkD n (Q / 2 ^ t) (e + t) = mkD n Q e:=by
 have e1 : Q = Q / 2 ^ t * 2 ^ t:=by
  have:=Nat.div_add_mod Q (2 ^ t)
  rw [ht,Nat.add_zero,Nat.mul_comm] at this; exact this.symm
 have e2 : tz Q = tz (Q / 2 ^ t) + t:=by
  conv => lhs; rw [e1]
  exact ZDG h2 t
 rw [Zal h,Zal h2,e2,Nat.div_div_eq_div_mul,← Nat.pow_add,Nat.add_comm t]
 congr 1; omega
theorem Zux (J : Al G T g) {z : Bool} {d : Dy} {k : Nat} (hs : (dl d.m).length < 17179869183) (hk : blen d.m≤k) (hkk : k < 8192) :
  run G T 80 [DyA z d,.int .i64 (k : Int)] = some (.tup [DyA z d,.bool false]):=by
 obtain ⟨n,m,e⟩:=d
 simp only at *
 have l1:=Zcp (G:=G) J (z:=z) (a:=m) (by omega)
 have w2 : ((blen m : Nat) : Int) - (k : Int)≤0:=by omega
 have w4 : IntKind.i64.wrap ((blen m : Int) - (k : Int)) = (blen m : Int) - (k : Int):=Zac (by omega)
 rw [Zab G T J.C.Zoh]
 clear hs hk
 simp only [DyA,A3] at *
 repeat' (first | simp only [seval,exC,Zie,l1,w2,w4] | simp (disch:=omega) only [dxB])
theorem Zwt (J : Al G T g) {n z : Bool} {Q k S : Nat} {e : Int} (hl : (dl Q).length < 1048576) (hS : blen Q = k + S) (h0 : 0 < S) (hk0 : 0 < k) (hk : k < 8192) (he : -68719476736 < e∧e < 68719476736) :
  ∃ z',run G T 80 [DyA z (mkD n Q e),.int .i64 (k : Int)] = some (.tup [DyA z' (mkD n (Q / 2 ^ S) (e + S)),.bool (!decide (Q % 2 ^ S = 0))]):=by
 have hQ : Q≠0:=by rintro rfl; rw [Zag] at hS; omega
 have hl2:=Zaa Q
 have t1:=(ZfL hQ).1
 have tm : Q % 2 ^ tz Q = 0:=by
  have:=Nat.mul_mod_left (Q / 2 ^ tz Q) (2 ^ tz Q)
  rw [← t1] at this; exact this
 have tb:=Zhi hQ
 have bd:=Zaj Q (tz Q)
 have ld:=Zaa (Q / 2 ^ tz Q)
 have bS:=Zaj Q S
 have hQS : Q / 2 ^ S≠0:=by intro hc; rw [hc,Zag] at bS; omega
 rcases Nat.lt_or_ge (tz Q) S with h | h
 ·obtain ⟨z',hc⟩:=Zoh (G:=G) J (z:=z) (d:=mkD n Q e) (k:=k) (s:=S - tz Q) (by rw [Zal hQ]; simp only; omega) (by rw [Zal hQ]; simp only; omega) (by rw [Zal hQ]; simp only; omega) (by omega) hk (by rw [Zal hQ]; simp only; omega)
  refine ⟨z',?_⟩
  rw [hc,Zal hQ]
  simp only
  rw [ZEs (Nat.le_of_lt h),show e + (tz Q : Int) + ((S - tz Q : Nat) : Int) = e + S by omega]
  congr 4
  simp only [ZFb (Nat.le_of_lt h) tm]
 ·have hm : Q % 2 ^ S = 0:=by
   have e1:=Znk Q S (tz Q - S)
   rw [show S + (tz Q - S) = tz Q by omega] at e1
   exact (e1.1 tm).1
  have hc:=Zux (G:=G) J (z:=z) (d:=mkD n Q e) (k:=k) (by rw [Zal hQ]; simp only; omega) (by rw [Zal hQ]; simp only; omega) hk
  refine ⟨z,?_⟩
  rw [hc,ZEY (t:=S) (S:=0) hQ hQS hm,hm]; rfl
theorem ZqW (J : Al G T g) {z y : Bool} {a b : Dy} {k S : Nat} (ha : a.m≠0) (hb : b.m≠0) (la : blen a.m < 1048576) (lb : blen b.m < 1048576) (hk0 : 0 < k) (hk : k < 8192)
  (ea : -17179869184 < a.e∧a.e < 17179869184) (eb : -17179869184 < b.e∧b.e < 17179869184) (hS : blen (a.m * 2 ^ quoN k a.m b.m / b.m) = k + S) :
  ∃ z',run G T 41 [DyA z a,DyA y b,.int .i64 (k : Int)] = some (.tup [DyA z' (mkD (a.n != b.n) (a.m * 2 ^ quoN k a.m b.m / b.m / 2 ^ S) (a.e - b.e - (quoN k a.m b.m : Nat) + S)),
   .bool (!decide (a.m * 2 ^ quoN k a.m b.m / b.m % 2 ^ S = 0) || !decide (a.m * 2 ^ quoN k a.m b.m % b.m = 0))]):=by
 have hqb:=ZmD (k:=k) ha hb
 obtain ⟨n,m,e⟩:=a
 obtain ⟨n',m',e'⟩:=b
 simp only at *
 have d1:=Zaa m
 have d2:=Zaa m'
 have l1:=Zcp (G:=G) J (z:=z) (a:=m) (by omega)
 have l2:=Zcp (G:=G) J (z:=y) (a:=m') (by omega)
 have hN2 : quoN k m m' = k + 1 + blen m' - blen m:=rfl
 generalize quoN k m m' = N at *
 obtain ⟨z1,h1⟩:=ZfH (G:=G) J (z:=z) (a:=m) (n:=N) (by omega) (by omega)
 have bm:=Zav ha N
 have d3:=Zaa (m * 2 ^ N)
 obtain ⟨z2,z3,h2⟩:=Zji (G:=G) J (z:=z1) (y:=y) (a:=m * 2 ^ N) (b:=m') (by omega) (by omega) (by omega)
 have bq:=Zap (Nat.div_le_self (m * 2 ^ N) m')
 have d4:=Zaa (m * 2 ^ N / m')
 have hrl : decide ((0 : Int) < ((dl (m * 2 ^ N % m')).length : Int)) = !decide (m * 2 ^ N % m' = 0):=by
  rw [← decide_not]; refine decide_eq_decide.2 ?_
  rw [← Zan]; omega
 generalize m * 2 ^ N / m' = Q at *
 generalize m * 2 ^ N % m' = R at *
 obtain ⟨z4,h3⟩:=ZaQ (G:=G) J (n:=n != n') (z:=z2) (a:=Q) (e:=e - e' - N) (by omega) (by omega)
 obtain ⟨z5,h4⟩:=Zwt (G:=G) J (n:=n != n') (z:=z4) (Q:=Q) (k:=k) (S:=S) (e:=e - e' - N) (by omega) hS (by omega) hk0 hk (by omega)
 have c1 : ¬ ((dl m).length : Int) = 0:=fun hc => ha (Zan.1 (by omega))
 refine ⟨z5,?_⟩
 have hne : (n != n') = !decide (n = n'):=by cases n <;> cases n' <;> rfl
 rw [hne] at h3 h4 ⊢
 rw [Zab G T J.C.ZqW]
 simp only [DyA,A3] at *
 have wa : IntKind.i64.wrap ((k : Int) + 1) = (k : Int) + 1:=Zac (by omega)
 have wb : IntKind.i64.wrap ((k : Int) + 1 + (blen m' : Int)) = (k : Int) + 1 + (blen m' : Int):=Zac (by omega)
 have wc : IntKind.i64.wrap ((k : Int) + 1 + (blen m' : Int) - (blen m : Int)) = (k : Int) + 1 + (blen m' : Int) - (blen m : Int):=Zac (by omega)
 have wd : IntKind.i64.wrap (e - e') = e - e':=Zac (by omega)
 have we : IntKind.i64.wrap (e - e' - (N : Int)) = e - e' - N:=Zac (by omega)
 have hN3 : ((k : Int) + 1 + (blen m' : Int) - (blen m : Int) < 0∧N = 0)∨(¬ ((k : Int) + 1 + (blen m' : Int) - (blen m : Int) < 0)∧(k : Int) + 1 + (blen m' : Int) - (blen m : Int) = N):=by omega
 clear d1 d2 d3 d4 bm bq hqb hS hN2
 generalize decide (Q % 2 ^ S = 0) = o at *
 rcases hN3 with ⟨c3,rfl⟩ | ⟨c3,wN⟩
 ·simp only [cast0,Nat.pow_zero,Nat.mul_one] at h1 h2 we h3 h4 ⊢
  cases o <;> (repeat' (first | simp only [seval,exC,Zig,l1,l2,c1,c3,wa,wb,wc,wd,we,h1,h2,h3,h4,hrl] | simp (disch:=omega) only [dxB]); try rfl)
 ·have c4 : ¬ (N : Int) < 0:=by omega
  rw [wN] at wc
  cases o <;> (repeat' (first | simp only [seval,exC,Zig,l1,l2,c1,c4,wN,wa,wb,wc,wd,we,h1,h2,h3,h4,hrl] | simp (disch:=omega) only [dxB]); try rfl)
theorem Zyt (e : Env) (h : Heap) : evL G T Zjs e h = kS G T (evL G T Zjr (keepE [5,6,7] e) h) Zjs:=Zae G T rfl e h
theorem ZjU (J : Al G T g) {n z n' z' : Bool} {l l' : List Nat} (hd : Dg l) (hd' : Dg l') {e e' : Int} :
  run G T 74 [.imm 2 [.bool n,D z l,.int .i64 e,.bool n',D z' l',.int .i64 e']] = some (.bool (mayD n l e && mayD n' l' e')):=by
 rw [Zab G T J.C.ZjU]
 have h2:=Zda J (n:=n) (z:=z) hd (e:=e)
 have h3:=Zda J (n:=n') (z:=z') hd' (e:=e')
 simp only [A3] at *
 cases hm : mayD n l e <;> cases hm' : mayD n' l' e' <;> (
  rw [hm] at h2
  rw [hm'] at h3
  repeat' (first | simp only [seval,exC,Zko,h2,h3,Zyt,Zjr,iad20,iad21,ZFw] | simp (disch:=omega) only [dxB])
  all_goals rfl)
theorem Zsw (J : Al G T g) {z y : Bool} {a b : Dy} {k S : Nat} (da : mayD a.n (dl a.m) a.e = true) (db : mayD b.n (dl b.m) b.e = true)
  (ha : a.m≠0) (hb : b.m≠0) (hk : 1≤k∧k≤8192) (hw : quoN k a.m b.m + blen a.m≤131072) (ea : -4000000 < a.e∧a.e < 4000000) (eb : -4000000 < b.e∧b.e < 4000000)
  (hS : blen (a.m * 2 ^ quoN k a.m b.m / b.m) = k + S) :
  ∃ z',run G T 40 [DyA z a,DyA y b,.int .i64 (k : Int)] = some (.tup [DyA z' (mkD (a.n != b.n) (a.m * 2 ^ quoN k a.m b.m / b.m / 2 ^ S) (a.e - b.e - (quoN k a.m b.m : Nat) + S)),
   .bool (!decide (a.m * 2 ^ quoN k a.m b.m / b.m % 2 ^ S = 0) || !decide (a.m * 2 ^ quoN k a.m b.m % b.m = 0)),.int .i64 0]):=by
 have hqb:=ZmD (k:=k) ha hb
 have ma:=(Zbx da).1
 have mb:=(Zbx db).1
 obtain ⟨n,m,e⟩:=a
 obtain ⟨n',m',e'⟩:=b
 simp only at *
 have b0:=ZjU J (n:=n) (z:=z) (n':=n') (z':=y) (Zao m) (Zao m') (e:=e) (e':=e')
 rw [da,db,Bool.and_self] at b0
 have a0:=Zmw J hk
 have l1:=ZfG J (z:=z) ma
 have l2:=ZfG J (z:=y) mb
 have bm:=ZdM ma
 have bm':=ZdM mb
 have hN2 : quoN k m m' = k + 1 + blen m' - blen m:=rfl
 generalize quoN k m m' = N at *
 obtain ⟨z1,h1⟩:=Zct J (z:=z) (a:=m) (n:=N) ma (Or.inr hw) (by omega)
 have bN:=Zav ha N
 have mN : mayL (dl (m * 2 ^ N)) = true:=Zak (by omega)
 obtain ⟨z2,z3,h2⟩:=Zgb J (z:=z1) (y:=y) (a:=m * 2 ^ N) (b:=m') mN mb hb
 have bq:=Zap (Nat.div_le_self (m * 2 ^ N) m')
 have mq : mayL (dl (m * 2 ^ N / m')) = true:=Zak (by omega)
 have hrl : decide ((0 : Int) < ((dl (m * 2 ^ N % m')).length : Int)) = !decide (m * 2 ^ N % m' = 0):=by
  rw [← decide_not]; refine decide_eq_decide.2 ?_
  rw [← Zan]; omega
 generalize m * 2 ^ N / m' = Q at *
 generalize m * 2 ^ N % m' = R at *
 obtain ⟨z5,h4⟩:=ZnR J (n:=n != n') (z:=z2) (more:=!decide (R = 0)) (q:=Q) (k:=k) (s:=S) (e:=e - e' - N) mq hS (by omega) (by omega)
 have c1 : ¬ ((dl m).length : Int) = 0:=fun hc => ha (Zan.1 (by omega))
 have c2 : ¬ ((dl m').length : Int) = 0:=fun hc => hb (Zan.1 (by omega))
 refine ⟨z5,?_⟩
 have hne : (n != n') = !decide (n = n'):=by cases n <;> cases n' <;> rfl
 rw [hne] at h4 ⊢
 rw [Zab G T J.C.Zsw]
 simp only [DyA,A3] at *
 have c3 : ¬ (k : Int) < 1:=by omega
 have wa : IntKind.i64.wrap ((k : Int) + 1) = (k : Int) + 1:=Zac (by omega)
 have wb : IntKind.i64.wrap ((k : Int) + 1 + (blen m' : Int)) = (k : Int) + 1 + (blen m' : Int):=Zac (by omega)
 have wc : IntKind.i64.wrap ((k : Int) + 1 + (blen m' : Int) - (blen m : Int)) = (k : Int) + 1 + (blen m' : Int) - (blen m : Int):=Zac (by omega)
 have wd : IntKind.i64.wrap (e - e') = e - e':=Zac (by omega)
 have we : IntKind.i64.wrap (e - e' - (N : Int)) = e - e' - N:=Zac (by omega)
 have wm : max (0 : Int) ((k : Int) + 1 + (blen m' : Int) - (blen m : Int)) = N:=by omega
 have wf : IntKind.i64.wrap (131072 - (blen m : Int)) = 131072 - (blen m : Int):=Zac (by omega)
 have c4 : ¬ (131072 - (blen m : Int) < (N : Int)):=by omega
 clear bN mN bq mq hqb hS hN2 da db ma mb hw
 generalize decide (Q % 2 ^ S = 0) = o at *
 cases o <;> (repeat' (first | simp only [seval,exC,Zml,b0,a0,c1,c2,c3,c4,l1,l2,wa,wb,wc,wd,we,wf,wm,ZlI,h1,h2,h4,hrl] | simp (disch:=omega) only [dxB]); try rfl)
def shN (m : Nat) (n : Int) : Nat:=if 0≤n then m * 2 ^ n.toNat else m / 2 ^ (-n).toNat
def shB (m : Nat) (n : Int) : Bool:=if 0≤n then false else !decide (m % 2 ^ (-n).toNat = 0)
theorem Zxa {m : Nat} (h : m≠0) {n : Int} (hn : 0≤(blen m : Int) + n) : (blen (shN m n) : Int) = blen m + n:=by
 unfold shN; split
 ·rw [Zav h]; omega
 ·rw [Zaj]; omega
theorem Zul (J : Al G T g) {z : Bool} {m : Nat} {n : Int} (hm : mayL (dl m) = true) (h1 : (blen m : Int) + n≤131072) (h2 : -1099511627776 < n∧n < 1099511627776) :
  ∃ z',run G T 50 [D z (dl m),.int .i64 n] = some (.tup [D z' (dl (shN m n)),.bool (shB m n),.int .i64 0]):=by
 unfold shN shB
 by_cases h : 0≤n
 ·obtain ⟨z',hz⟩:=Zct J (z:=z) (a:=m) (n:=n.toNat) hm (by omega) (by omega)
  rw [if_pos h,if_pos h]
  rw [show ((n.toNat : Nat) : Int) = n by omega] at hz
  exact ⟨z',hz⟩
 ·obtain ⟨z',hz⟩:=ZgA J (z:=z) (a:=m) (n:=(-n).toNat) hm (by omega) (by omega)
  rw [if_neg h,if_neg h]
  rw [show -(((-n).toNat : Nat) : Int) = n by omega] at hz
  exact ⟨z',hz⟩
theorem ZgX {k r M : Nat} (h1 : 2 ^ k * 2 ^ k≤M) (h2 : M < (r + 1) * (r + 1)) : k < blen r:=by
 rw [Zbn]
 rcases Nat.lt_or_ge r (2 ^ k) with h | h
 ·have:=Nat.mul_le_mul (show r + 1≤2 ^ k by omega) (show r + 1≤2 ^ k by omega)
  omega
 ·exact h
theorem ZAO (x : Int) : andI .i64 x 1 = x % 2:=by
 rw [Zsk]
 unfold andI0
 have h1 : (BitVec.ofInt IntKind.i64.bits x &&& BitVec.ofInt IntKind.i64.bits 1).toNat = (x % 18446744073709551616).toNat % 2:=by
  rw [BitVec.toNat_and]
  rw [show (BitVec.ofInt IntKind.i64.bits 1).toNat = 1 from rfl,BitVec.toNat_ofInt]
  rw [show ((2 : Nat) ^ IntKind.i64.bits : Nat) = 18446744073709551616 from rfl]
  exact Zsm _
 rw [h1]
 rw [Zac (by omega)]
 omega
set_option maxHeartbeats 2000000 in
theorem Zqo (J : Al G T g) {z : Bool} {d : Dy} {k S : Nat} {n c : Int} {r : Nat} (dd : mayD d.n (dl d.m) d.e = true) (h0 : d.m≠0) (hs : d.n = false)
  (hk : 1≤k∧k≤8192) (hn : n = 2 * k + 2 - blen d.m + (d.e - (2 * k + 2 - blen d.m)) % 2) (hc : d.e - n = 2 * c)
  (r1 : r * r≤shN d.m n) (r2 : shN d.m n < (r + 1) * (r + 1)) (hS : blen r = k + S) :
  ∃ z',run G T 43 [DyA z d,.int .i64 (k : Int)] = some (.tup [DyA z' (mkD false (r / 2 ^ S) (c + S)),
   .bool (!decide (r % 2 ^ S = 0) || (shB d.m n || !decide (r * r = shN d.m n))),.int .i64 0]):=by
 obtain ⟨f1,f2,f3,f4,f5⟩:=Zbx dd
 obtain ⟨ng,m,e⟩:=d
 simp only at *
 subst hs
 have hbm:=ZdM f1
 have hbp:=ZcV h0
 have hbs:=Zxa h0 (n:=n) (by omega)
 have hrk : k < blen r:=ZgX (k:=k) (r:=r) (M:=shN m n) (by
  have:=ZbD (n:=shN m n) (by intro hc; rw [hc,Zag] at hbs; omega)
  rw [← Nat.pow_add]
  exact Nat.le_trans (Nat.pow_le_pow_right (by decide) (by omega)) this) r2
 have b0:=Zda J false z (Zao m) e
 rw [dd] at b0
 have a0:=Zmw J hk
 have l1:=ZfG J (z:=z) f1
 obtain ⟨z1,h1⟩:=Zul J (z:=z) (m:=m) (n:=n) f1 (by omega) (by omega)
 have mM : mayL (dl (shN m n)) = true:=Zak (by omega)
 obtain ⟨r',z2,h2,q1,q2⟩:=ZpJ J (z:=z1) (a:=shN m n) mM
 have hrr : r' = r:=Zrg q1 q2 r1 r2
 subst hrr
 have hbr : blen r'≤blen (shN m n):=Zap (Nat.le_trans (Nat.le_mul_self r') r1)
 have mr : mayL (dl r') = true:=Zak (by omega)
 obtain ⟨z5,h4⟩:=ZnR J (n:=false) (z:=z2) (more:=shB m n || !decide (r' * r' = shN m n)) (q:=r') (k:=k) (s:=S) (e:=c) mr hS (by omega) (by omega)
 have c1 : ¬ ((dl m).length : Int) = 0:=fun hc => h0 (Zan.1 (by omega))
 refine ⟨z5,?_⟩
 rw [Zab G T J.C.Zqo]
 simp only [DyA,A3] at *
 have wa : IntKind.i64.wrap (2 * (k : Int)) = 2 * (k : Int):=Zac (by omega)
 have wb : IntKind.i64.wrap (2 * (k : Int) + 2) = 2 * (k : Int) + 2:=Zac (by omega)
 have wc : IntKind.i64.wrap (2 * (k : Int) + 2 - (blen m : Int)) = 2 * (k : Int) + 2 - (blen m : Int):=Zac (by omega)
 have wd : IntKind.i64.wrap (e - (2 * (k : Int) + 2 - (blen m : Int))) = e - (2 * (k : Int) + 2 - (blen m : Int)):=Zac (by omega)
 have we : IntKind.i64.wrap (e - n) = e - n:=Zac (by omega)
 have wt : IntKind.i64.wrap ((e - n).tdiv 2) = c:=by rw [hc,Int.mul_tdiv_cancel_left _ (by decide)]; exact Zac (by omega)
 have wx:=ZAO (e - (2 * (k : Int) + 2 - (blen m : Int)))
 have hpar : ((e - (2 * (k : Int) + 2 - (blen m : Int))) % 2 = 0∧n = 2 * (k : Int) + 2 - (blen m : Int)) ∨
   ((e - (2 * (k : Int) + 2 - (blen m : Int))) % 2 = 1∧IntKind.i64.wrap (2 * (k : Int) + 2 - (blen m : Int) + 1) = n):=by
  rcases Int.emod_two_eq (e - (2 * (k : Int) + 2 - (blen m : Int))) with hp | hp
  ·left; exact ⟨hp,by omega⟩
  ·right; refine ⟨hp,?_⟩; rw [Zac (by omega)]; omega
 clear hbs hrk hbr mr mM hS r1 r2 q1 q2 f1 f2 f3 f4 f5 dd hbm hbp hn
 generalize shB m n = o1 at *
 generalize decide (r' * r' = shN m n) = o2 at *
 generalize decide (r' % 2 ^ S = 0) = o at *
 generalize shN m n = M at *
 rcases hpar with ⟨hp,hn⟩ | ⟨hp,hn⟩
 ·rw [hp] at wx
  rw [hn] at h1 we wt
  cases o1 <;> cases o2 <;> (simp only [Bool.false_or,Bool.true_or,Bool.not_true,Bool.not_false,Bool.or_false,Bool.or_true] at h4 ⊢; repeat' (first | simp only [seval,exC,ZhV,b0,a0,c1,l1,wa,wb,wc,wd,we,wt,wx,h1,h2,h4] | simp (disch:=omega) only [dxB]); try rfl)
 ·rw [hp] at wx
  cases o1 <;> cases o2 <;> (simp only [Bool.false_or,Bool.true_or,Bool.not_true,Bool.not_false,Bool.or_false,Bool.or_true] at h4 ⊢; repeat' (first | simp only [seval,exC,ZhV,b0,a0,c1,l1,wa,wb,wc,wd,we,wt,wx,hn,h1,h2,h4] | simp (disch:=omega) only [dxB]); try rfl)
theorem ZCM (x : Int) : (x.tmod 2 = 0↔x % 2 = 0):=by
 constructor
 ·intro h; exact Int.emod_eq_zero_of_dvd (Int.dvd_of_tmod_eq_zero h)
 ·intro h; exact Int.tmod_eq_zero_of_dvd (Int.dvd_of_emod_eq_zero h)
set_option maxHeartbeats 2000000 in
theorem ZoS (J : Al G T g) {z : Bool} {d : Dy} {k S N r : Nat} {c : Int} (h0 : d.m≠0) (lb : blen d.m < 1048576) (hk0 : 0 < k) (hk : k < 8192) (he : -17179869184 < d.e∧d.e < 17179869184)
  (hN : (N : Int) = max 0 (2 * (k : Int) + 2 - blen d.m) + (d.e - max 0 (2 * (k : Int) + 2 - blen d.m)) % 2) (hc : d.e - N = 2 * c)
  (r1 : r * r≤d.m * 2 ^ N) (r2 : d.m * 2 ^ N < (r + 1) * (r + 1)) (hS : blen r = k + S) :
  ∃ z',run G T 44 [DyA z d,.int .i64 (k : Int)] = some (.tup [DyA z' (mkD false (r / 2 ^ S) (c + S)),.bool (!decide (r % 2 ^ S = 0) || !decide (r * r = d.m * 2 ^ N))]):=by
 obtain ⟨ng,m,e⟩:=d
 simp only at *
 have hbp:=ZcV h0
 have hbN:=Zav h0 N
 have hrk : k < blen r:=ZgX (k:=k) (r:=r) (M:=m * 2 ^ N) (by
  have:=ZbD (n:=m * 2 ^ N) (by intro hc; rw [hc,Zag] at hbN; omega)
  rw [← Nat.pow_add]
  exact Nat.le_trans (Nat.pow_le_pow_right (by decide) (by omega)) this) r2
 have hbr : blen r≤blen (m * 2 ^ N):=Zap (Nat.le_trans (Nat.le_mul_self r) r1)
 have d1:=Zaa m
 have d2:=Zaa (m * 2 ^ N)
 have d3:=Zaa r
 have l1:=Zcp (G:=G) J (z:=z) (a:=m) (by omega)
 obtain ⟨z1,h1⟩:=ZfH (G:=G) J (z:=z) (a:=m) (n:=N) (by omega) (by omega)
 obtain ⟨r',z2,h2,q1,q2⟩:=ZoR (G:=G) J (z:=z1) (a:=m * 2 ^ N) (by omega)
 have hrr : r' = r:=Zrg q1 q2 r1 r2
 subst hrr
 obtain ⟨z4,h3⟩:=ZaQ (G:=G) J (n:=false) (z:=z2) (a:=r') (e:=c) (by omega) (by omega)
 obtain ⟨z5,h4⟩:=Zwt (G:=G) J (n:=false) (z:=z4) (Q:=r') (k:=k) (S:=S) (e:=c) (by omega) hS (by omega) hk0 hk (by omega)
 refine ⟨z5,?_⟩
 rw [Zab G T J.C.ZoS]
 simp only [DyA,A3] at *
 have wa : IntKind.i64.wrap (2 * (k : Int)) = 2 * (k : Int):=Zac (by omega)
 have wb : IntKind.i64.wrap (2 * (k : Int) + 2) = 2 * (k : Int) + 2:=Zac (by omega)
 have wc : IntKind.i64.wrap (2 * (k : Int) + 2 - (blen m : Int)) = 2 * (k : Int) + 2 - (blen m : Int):=Zac (by omega)
 have we : IntKind.i64.wrap (e - (N : Int)) = e - N:=Zac (by omega)
 have wt : IntKind.i64.wrap ((e - (N : Int)).tdiv 2) = c:=by rw [hc,Int.mul_tdiv_cancel_left _ (by decide)]; exact Zac (by omega)
 have hM : ∃ P : Int,P = max 0 (2 * (k : Int) + 2 - (blen m : Int)):=⟨_,rfl⟩
 obtain ⟨P,hP⟩:=hM
 rw [← hP] at hN
 have wd : IntKind.i64.wrap (e - P) = e - P:=Zac (by omega)
 have wx:=ZCM (e - P)
 have hpar : ((e - P).tmod 2 = 0∧(N : Int) = P)∨(¬ (e - P).tmod 2 = 0∧IntKind.i64.wrap (P + 1) = N):=by
  rcases Int.emod_two_eq (e - P) with hp | hp
  ·left; exact ⟨wx.2 hp,by omega⟩
  ·right; refine ⟨fun h => ?_,?_⟩
   ·have:=wx.1 h; omega
   ·rw [Zac (by omega)]; omega
 have hPP : (2 * (k : Int) + 2 - (blen m : Int) < 0∧P = 0)∨(¬ 2 * (k : Int) + 2 - (blen m : Int) < 0∧P = 2 * (k : Int) + 2 - (blen m : Int)):=by omega
 clear wx hN hbp hbN hrk hbr d1 d2 d3 r1 r2 q1 q2 hS lb hP
 generalize decide (r' * r' = m * 2 ^ N) = o2 at *
 generalize decide (r' % 2 ^ S = 0) = o at *
 rcases hPP with ⟨c1,rfl⟩ | ⟨c1,hPe⟩
 ·rcases hpar with ⟨hp,hn⟩ | ⟨hp,hn⟩
  ·rw [hn] at h1 we wt
   cases o <;> cases o2 <;> (repeat' (first | simp only [seval,exC,Zdn,l1,c1,wa,wb,wc,wd,we,wt,hp,h1,h2,h3,h4] | simp (disch:=omega) only [dxB]); all_goals rfl)
  ·have w0 : IntKind.i64.wrap (0 + 1) = 1:=rfl
   have w1 : IntKind.i64.wrap 1 = 1:=rfl
   have hN1 : N = 1:=by omega
   subst hN1
   rw [show ((1 : Nat) : Int) = 1 from rfl] at h1 we wt
   clear hn
   cases o <;> cases o2 <;> (repeat' (first | simp only [seval,exC,Zdn,l1,c1,wa,wb,wc,wd,we,wt,hp,w0,w1,h1,h2,h3,h4] | simp (disch:=omega) only [dxB]); all_goals rfl)
 ·rw [hPe] at wd hpar
  rcases hpar with ⟨hp,hn⟩ | ⟨hp,hn⟩
  ·rw [hn] at h1 we wt
   cases o <;> cases o2 <;> (repeat' (first | simp only [seval,exC,Zdn,l1,c1,wa,wb,wc,wd,we,wt,hp,h1,h2,h3,h4] | simp (disch:=omega) only [dxB]); all_goals rfl)
  ·cases o <;> cases o2 <;> (repeat' (first | simp only [seval,exC,Zdn,l1,c1,wa,wb,wc,wd,we,wt,hp,hn,h1,h2,h3,h4] | simp (disch:=omega) only [dxB]); all_goals rfl)
end Go.Cv
