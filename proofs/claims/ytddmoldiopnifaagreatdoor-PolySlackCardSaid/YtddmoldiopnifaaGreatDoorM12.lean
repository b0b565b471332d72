/-
 A part of the proof of the statements of this seat (texts that the law's own text leans on): no condition.
-/
import Derived.Test.YtddmoldiopnifaaGreatDoorM11
import Derived.Test.YtddmoldiopnifaaGreatDoorM10
import Derived.Test.YtddmoldiopnifaaGreatDoorM9
set_option linter.unusedVariables false
set_option linter.unusedSimpArgs false
namespace Go.Cv
variable {G : Nat→Option (List AV)} {T : Tbl} {g : Nat}
theorem Zyf {h0 h : Heap} {b La : Nat} {L C A : List Nat} {za : Bool} {s6 s7 : AV} (H : Holds h b (L ++ C)) (hf : FreH h) (dL : Dg L) (hL : L.length = La) (hs : A.length < 17179869184) (hlen : La = A.length∨La = A.length + 1) (K : KeepsAll h0 h (.own b 0 La 1)) :
  Post (evL G T Zdh [(0,D za A),(6,s6),(7,s7),(8,.own b 0 La 1)] h) fun r =>
   ∃ e h' b' C' U,r = (.exit 0,(0,D za A) :: (6,s6) :: (7,s7) :: (8,.own b' 0 (A.length + 1) 1) :: e,h')∧Holds h' b' (U ++ C')∧FreH h'∧U.length = A.length + 1∧Dg U∧val U = val L∧KeepsAll h0 h' (.own b' 0 (A.length + 1) 1):=by
 subst hL
 rw [Zae G T (c:=Zdh) rfl]
 rcases hlen with hl | hl
 ·have c1 : ((L.length : Nat) : Int)≤((A.length : Nat) : Int):=by omega
  have B : Bld h (.own b 0 L.length 1) L:=⟨hf,Or.inr ⟨b,C,rfl,H⟩⟩
  obtain ⟨ha1,ha2,ha3⟩:=Zkj B (w:=0) (by decide) (by omega)
  have K2:=Zmv B K (w:=0) (by decide) (by omega)
  have c2 : ¬ (((L.length + 1 : Nat) : Int)≤((A.length : Nat) : Int)):=by omega
  have e : Post (evL G T Zdh [(0,D za A),(6,s6),(7,s7),(8,.own (h.b.length + 1) 0 (L.length + 1) 1)] (appH h (.own b 0 L.length 1) 0)) fun r =>
   ∃ e h' b' C' U,r = (.exit 0,(0,D za A) :: (6,s6) :: (7,s7) :: (8,.own b' 0 (A.length + 1) 1) :: e,h')∧Holds h' b' (U ++ C')∧FreH h'∧U.length = A.length + 1∧Dg U∧val U = val L∧KeepsAll h0 h' (.own b' 0 (A.length + 1) 1):=by
   rw [Zae G T (c:=Zdh) rfl]
   repeat (first | (simp (maxSteps:=9^7) only [seval,evB,ZeY,c2]) | (simp (disch:=omega) only [dsB]))
   refine Post.some ⟨_,_,_,[],L ++ [0],by rw [hl],by rw [List.append_nil]; exact ha2,ha3.1,by rw [List.length_append,hl]; rfl,ZbE dL (by decide),by rw [ZcN,Nat.mul_zero,Nat.add_zero],by rw [← hl]; exact K2⟩
  repeat (first | (simp (maxSteps:=9^7) only [seval,evB,ZeY,c1,ha1]) | (simp (disch:=omega) only [dsB]))
  exact e
 ·have c1 : ¬ (((L.length : Nat) : Int)≤((A.length : Nat) : Int)):=by omega
  repeat (first | (simp (maxSteps:=9^7) only [seval,evB,ZeY,c1]) | (simp (disch:=omega) only [dsB]))
  exact Post.some ⟨_,_,_,C,L,by rw [hl],H,hf,hl,dL,rfl,by rw [← hl]; exact K⟩
theorem Zyr {b n s : Nat} (hn : (dl b).length = n) (h0 : 0 < n) (hs : s = 32 - blen (dg (dl b) (n - 1))) : s < 32∧(dl (b * 2 ^ s)).length = n∧2147483648≤dg (dl (b * 2 ^ s)) (n - 1):=by
 have hb0 : b≠0:=by rintro rfl; rw [Zag] at hn; simp at hn; omega
 have hbl:=Zoq hb0
 rw [hn] at hbl
 have ht : blen (dg (dl b) (n - 1))≤32:=Zaf.2 ((Zas b).dg _)
 have hb1:=Zaa b
 rw [hn] at hb1
 have hm:=Zam hb0 s
 have e1 : blen (b * 2 ^ s) = 32 * n:=by omega
 have e2 : (dl (b * 2 ^ s)).length = n:=by rw [Zaa]; omega
 have hm0 : b * 2 ^ s≠0:=Nat.mul_ne_zero hb0 (Nat.ne_of_gt (Nat.two_pow_pos s))
 have e3:=Zoq hm0
 rw [e2,e1] at e3
 have e4 : 31 < blen (dg (dl (b * 2 ^ s)) (n - 1)):=by omega
 exact ⟨by omega,e2,Zau.1 e4⟩
theorem Zuv {a b s m n N : Nat} {U : List Nat} (dU : Dg U) (hN : U.length = N) (hU : val U = a * 2 ^ s) (ha : (dl a).length + 1 = N) (hb : (dl b).length = n) (h0 : 0 < n) (hm : N = m + n) : val (U.drop m) < b * 2 ^ s:=by
 rw [Zmo dU,hU]
 apply Nat.div_lt_of_lt_mul
 have h1 : a < 4294967296 ^ (N - 1):=ZbL.1 (by omega)
 have h2 : 4294967296 ^ (n - 1)≤b:=by
  apply Classical.byContradiction; intro hc
  have:=ZbL.2 (Nat.lt_of_not_le hc)
  omega
 have h3 : a < 4294967296 ^ m * b:=by
  refine Nat.lt_of_lt_of_le h1 ?_
  rw [show N - 1 = m + (n - 1) by omega,Nat.pow_add]
  exact Nat.mul_le_mul_left _ h2
 rw [← Nat.mul_assoc]
 exact Nat.mul_lt_mul_of_pos_right h3 (Nat.two_pow_pos s)
theorem ZoV (J : Al G T g) {z y : Bool} {a b : Nat} (hb : 2≤(dl b).length) (hab : b≤a) (hs : (dl a).length < 8589934592) : ∃ z1 z2,run G T 109 [D z (dl a),D y (dl b)] = some (.tup [D z1 (dl (a / b)),D z2 (dl (a % b))]):=by
 obtain ⟨n,hn⟩ : ∃ n,n = (dl b).length:=⟨_,rfl⟩
 obtain ⟨s,hs1⟩ : ∃ s,s = 32 - blen (dg (dl b) (n - 1)):=⟨_,rfl⟩
 obtain ⟨t1,t2,t3⟩:=Zyr hn.symm (by omega) hs1
 have hb0 : b≠0:=by rintro rfl; rw [Zag] at hb; exact absurd hb (by decide)
 have ha0 : a≠0:=by omega
 have hle : (dl b).length≤(dl a).length:=by
  have h1:=Zax hab
  have h2:=Zaa a
  have h3:=Zaa b
  omega
 obtain ⟨bv,V2,h1,r1,H1,dV2,F1,K1⟩:=ZsU (G:=G) (z:=y) J (h:=.nil) FreH.nil hb0 (by omega) (n:=s) (by omega)
 obtain ⟨bu,l2,h2,r2,H2,d2,F2,K2⟩:=ZsU (G:=G) (z:=z) J (h:=h1) F1 ha0 (by omega) (n:=s) (by omega)
 simp only [ZkG,Zmf,Nat.reduceAdd,Nat.zero_add] at r1 r2
 have hLa : (dl (a * 2 ^ s)).length = (dl a).length∨(dl (a * 2 ^ s)).length = (dl a).length + 1:=by
  rw [Zaa,Zaa,Zam ha0]; omega
 obtain ⟨_,r3,e3,h3,bu3,C3,U,rfl,H3,F3,hUl,dU,hUv,K3⟩:=Zyf (G:=G) (T:=T) (h0:=h1) (za:=z) (s6:=.int .i64 (s : Int)) (s7:=.own bv 0 n 1) H2 F2 (Zas _) rfl (A:=dl a) (by omega) hLa K2
 rw [ZaI] at hUv
 obtain ⟨HV3,hne3⟩:=K3 _ _ H1
 obtain ⟨m,hm⟩ : ∃ m,(dl a).length + 1 = m + n:=⟨(dl a).length + 1 - n,by omega⟩
 have hfirst:=Zuv dU hUl hUv rfl hn.symm (by omega) hm
 have HQ:=Zbs F3 (List.replicate m 0)
 have HU4:=H3.new (m:=List.replicate m 0)
 have HV4:=HV3.new (m:=List.replicate m 0)
 have q1 : bv≠bu3:=(hne3 _ _ _ _ rfl).symm
 have q2 : h3.b.length≠bu3:=by have:=H3.lt; omega
 have q3 : bv≠h3.b.length:=by have:=HV3.lt; omega
 have vV : val (dl (b * 2 ^ s)) = b * 2 ^ s:=ZaI _
 obtain ⟨_,r4,e4,h4,R,Q,rfl,HU5,HQ5,dR,hR,dQ,hQ,hlt,hv⟩:=Zqe (G:=G) (m:=m) (N:=(dl a).length + 1) (n:=n) (s:=.int .i64 (s : Int)) J q1 q2 q3 (by omega) (by omega) t2 (Zas _) dU t3 hUl hm m (new h3 (List.replicate m 0)) (U.drop m) (List.replicate m 0) (Nat.le_refl _) (by rw [List.take_append_drop]; exact HU4) HV4 HQ (dU.drop _) (by rw [List.length_drop,hUl]) (Ziu _) (List.length_replicate ..) (by rw [vV]; exact hfirst) (by
  have : (List.replicate m 0).drop m = []:=List.drop_eq_nil_of_le (by rw [List.length_replicate]; exact Nat.le_refl _)
  rw [this]; simp [val])
 rw [vV] at hlt hv
 rw [hUv] at hv
 have hq : val Q = a / b:=by
  have h1:=(ZmE hlt hv).1
  rw [h1,Nat.mul_div_mul_right _ _ (Nat.two_pow_pos s)]
 have hr : val R = a % b * 2 ^ s:=by
  have h1:=(ZmE hlt hv).2
  rw [h1,Nat.mul_mod_mul_right]
 have hRn : val (R.take n) = val R:=by
  rw [ZtZ dR,Nat.mod_eq_of_lt]
  refine Nat.lt_of_lt_of_le hlt ?_
  have:=ZdE (Zas (b * 2 ^ s))
  rw [t2,ZaI] at this
  exact Nat.le_of_lt this
 obtain ⟨z1,hz1⟩:=Zbr J (z:=false) dQ (by omega)
 obtain ⟨z2,hz2⟩:=Zbr J (z:=false) (dR.take n) (by rw [List.length_take]; omega)
 rw [hRn,hr] at hz2
 rw [hq] at hz1
 have hsb : (dl (a % b * 2 ^ s)).length≤n:=by
  have:=ZbL.1 (Nat.le_refl (dl (b * 2 ^ s)).length)
  rw [t2] at this
  exact ZbL.2 (Nat.lt_of_le_of_lt (Nat.mul_le_mul_right _ (Nat.le_of_lt (Nat.mod_lt a (by omega)))) this)
 obtain ⟨z3,hz3⟩:=ZkF J (z:=z2) (a:=a % b * 2 ^ s) (n:=s) (by omega) (by omega)
 rw [Nat.mul_div_cancel _ (Nat.two_pow_pos s)] at hz3
 have hsl : (dl (a % b)).length < 1099511627776:=by
  have h1:=Zax (Nat.le_of_lt (Nat.mod_lt a (Nat.pos_of_ne_zero hb0)))
  have h2:=Zaa (a % b)
  have h3:=Zaa b
  omega
 obtain ⟨z4,hz4⟩:=Zbr J (z:=z3) (Zas (a % b)) hsl
 rw [ZaI] at hz4
 have sq:=ZbW HQ5 (n:=m) (by omega)
 rw [← hQ,List.take_length,hQ] at sq
 have su:=ZbW HU5 (n:=n) (by rw [List.length_append]; omega)
 rw [List.take_append_of_le_length (by omega)] at su
 have slu:=ZAw (n:=(dl a).length + 1) (off:=0) (k:=.i64) (j:=(n : Int)) HU5.mem ⟨by omega,by rw [Int.toNat_natCast]; omega⟩
 rw [Int.toNat_natCast] at slu
 have i1 : ((dl b).length : Int) - 1 = (((dl b).length - 1 : Nat) : Int):=by omega
 have lz:=ZBc (G:=G) J ((Zas b).dg (n - 1))
 rw [← hs1] at lz
 have w1 : (((dl a).length + 1 : Nat) : Int) - (n : Int) = (m : Int):=by omega
 have mm : ∀ f : List Nat,(⟨h4.b,f⟩ : Heap).mem = h4.mem:=fun _ => rfl
 refine ⟨z1,z4,?_⟩
 rw [Zac G T J.A.ZoV]
 clear hLa hUv hfirst hlt hv hq hr hRn hsb hsl
 subst hn
 rw [t2] at r1
 repeat (first | (simp (maxSteps:=9^7) only [seval,evB,Zji,i1,lz,Zla G T J.A.Zqn,r1,r2,r3,r4,w1,sq,hz1,slu,su,hz2,hz3,hz4,mm,ZmN]) | (simp (disch:=omega) only [dsB]))
theorem ZxO (e : Env) (h : Heap) : evL G T ZiA e h = kS G T (evL G T Ziz (keepE [5,6,7] e) h) ZiA:=Zae G T rfl e h
theorem ZEU (x y : AV) (k : IntKind) : iaddrV 1 (.imm 2 [x,y]) (.int k 0) = some (.iptr [x,y] 0):=rfl
theorem ZEV (x y : AV) (k : IntKind) : iaddrV 1 (.imm 2 [x,y]) (.int k 1) = some (.iptr [x,y] 1):=rfl
theorem ZFi (h : Mem) (x y : AV) : rdAt G h 1 (.iptr [x,y] 0) = some [x]:=rfl
theorem ZFj (h : Mem) (x y : AV) : rdAt G h 1 (.iptr [x,y] 1) = some [y]:=rfl
theorem ZiO (J : Al G T g) {z y : Bool} {a b : List Nat} : run G T 106 [.imm 2 [D z a,D y b]] = some (.bool (mayL a && mayL b)):=by
 rw [Zac G T J.A.ZiO]
 have h1:=Zbc (G:=G) J z a
 have h2:=Zbc (G:=G) J y b
 cases ha : mayL a <;> cases hb : mayL b <;> (
  rw [ha] at h1
  rw [hb] at h2
  repeat' (first|simp (maxSteps:=9^7) only [seval,exC,Zkp,h1,h2,ZxO,Ziz,ZEU,ZEV,ZFi,ZFj]|simp (maxSteps:=9^7) (disch:=first|with_reducible assumption|omega) only [dxB]|(simp only [kdB];split)|(simp only [kvB];split))
  all_goals rfl)
theorem ZuY {h : Heap} {z : Bool} {l : List Nat} (hl : l≠[]) (hs : l.length < 549755813888) : appV h 1 4 .nil (D z l) = some (.own h.b.length 0 l.length 1,new h l):=by
 cases l with
 | nil => exact absurd rfl hl
 | cons a l =>
  have e : sliceCells h.mem 1 (D z (a :: l)) = some ((a :: l).length,cells (a :: l)):=by
   simp [D,sliceCells,cells]
  simp only [appV,e]
  rw [if_neg (by simp),if_pos (by simp only [boundApp]; omega)]
  rfl
theorem ZrY {h : Heap} {z : Bool} : appV h 1 4 .nil (D z []) = some (.nil,h):=by
 cases z <;> rfl
theorem Zfj {a b : Nat} : cmpN a b < 0↔a < b:=by
 unfold cmpN; split
 ·constructor <;> intro <;> omega
 ·split <;> constructor <;> intro <;> omega
theorem ZyJ {h : Heap} (hf : FreH h) (l : List Nat) : snapG (new h l).mem 3 h.b.length 0 l.length 1 = some (D false l):=by
 have:=ZbW (Zbs hf l) (n:=l.length) (Nat.le_refl _)
 rw [List.take_length] at this; exact this
theorem ZdT (J : Al G T g) {z y : Bool} {a b : Nat} (ha : mayL (dl a) = true) (hb : mayL (dl b) = true) (h0 : b≠0) :
  ∃ z1 z2,run G T 77 [D z (dl a),D y (dl b)] = some (.tup [D z1 (dl (a / b)),D z2 (dl (a % b)),.int .i64 0]):=by
 have la:=(ZaG.1 ha).1
 have lb:=(ZaG.1 hb).1
 have h1:=ZiO (G:=G) J (z:=z) (y:=y) (a:=dl a) (b:=dl b)
 rw [ha,hb,Bool.and_self] at h1
 have h2:=ZjY (G:=G) J (z:=z) (y:=y) (a:=a) (b:=b) (by omega) (by omega)
 have hl0 : ¬ ((dl b).length : Int) = 0:=by
  intro hc; exact h0 (Zap.1 (by omega))
 by_cases hab : a < b
 ·have c1 : cmpN a b < 0:=Zfj.2 hab
  rw [Nat.div_eq_of_lt hab,Nat.mod_eq_of_lt hab,Zag]
  by_cases ha0 : a = 0
  ·subst ha0
   rw [Zag] at *
   refine ⟨true,true,?_⟩
   rw [Zac G T J.A.ZdT]
   clear la lb ha hb hab
   repeat' (first|simp (maxSteps:=9^7) only [seval,exC,Zcb,h1,h2,hl0,c1,ZrY]|simp (maxSteps:=9^7) (disch:=first|with_reducible assumption|omega) only [dxB]|(simp only [kdB];split)|(simp only [kvB];split))
   rfl
  ·have hne : dl a≠[]:=fun hc => ha0 (ZeE.1 hc)
   refine ⟨true,false,?_⟩
   rw [Zac G T J.A.ZdT]
   clear ha hb hab
   repeat' (first|simp (maxSteps:=9^7) only [seval,exC,Zcb,h1,h2,hl0,c1 ]|simp (maxSteps:=9^7) (disch:=first|with_reducible assumption|omega) only [dxB,ZuY]|(simp only [kdB];split)|(simp only [kvB];split))
   have hsn:=ZyJ (h:={ b:=[{ cs:=[D z (dl a),D y (dl b)] }],f:=fz1 (AV.bool true) [0] }) (fun c hc => absurd hc List.not_mem_nil) (dl a)
   simp only [List.length_cons,List.length_nil,Nat.zero_add] at hsn
   rw [hsn]
   rfl
 ·have c1 : ¬ cmpN a b < 0:=fun hc => hab (Zfj.1 hc)
  by_cases hb1 : (dl b).length = 1
  ·have hd0 : dl b = [b]:=by
    have e1 : b < 4294967296:=by have:=ZbL.1 (Nat.le_of_eq hb1); simpa using this
    rw [ZlK h0,Nat.mod_eq_of_lt e1,Nat.div_eq_of_lt e1,Zag]
   have e1 : b < 4294967296:=by have:=ZbL.1 (Nat.le_of_eq hb1); simpa using this
   have hr : a % b < b:=Nat.mod_lt _ (by omega)
   obtain ⟨z1,hz1⟩:=Znd (G:=G) J (z:=z) (a:=a) (d:=b) (by omega) e1 (by omega)
   obtain ⟨z2,hz2⟩:=Zbr (G:=G) J (z:=false) (l:=[a % b]) (ZdF.2 ⟨by omega,Dg.nil⟩) (by simp)
   rw [show val [a % b] = a % b by simp [val]] at hz2
   have hz2 : run G T 94 [.imm 1 [.int .u32 ((a % b : Nat) : Int)]] = some (D z2 (dl (a % b))):=hz2
   have hdb : dg (dl b) 0 = b:=by rw [hd0]; rfl
   have hb1' : ((dl b).length : Int) = 1:=by omega
   refine ⟨z1,z2,?_⟩
   rw [Zac G T J.A.ZdT]
   clear ha hb hab hr
   repeat' (first|simp (maxSteps:=9^7) only [seval,exC,Zcb,h1,h2,hl0,c1,hb1',hdb,hz1,hz2]|simp (maxSteps:=9^7) (disch:=first|with_reducible assumption|omega) only [dxB]|(simp only [kdB];split)|(simp only [kvB];split))
  ·have hb2 : ¬ ((dl b).length : Int) = 1:=by omega
   have hb3 : ¬ (dl b).length = 0:=by omega
   obtain ⟨z1,z2,hz⟩:=ZoV (G:=G) J (z:=z) (y:=y) (a:=a) (b:=b) (by omega) (by omega) (by omega)
   refine ⟨z1,z2,?_⟩
   rw [Zac G T J.A.ZdT]
   clear ha hb hab
   repeat' (first|simp (maxSteps:=9^7) only [seval,exC,Zcb,h1,h2,hl0,c1,hb2,hz]|simp (maxSteps:=9^7) (disch:=first|with_reducible assumption|omega) only [dxB]|(simp only [kdB];split)|(simp only [kvB];split))
theorem ZtS (J : Al G T g) {h : Heap} {b N : Nat} {Q X l0 : List Nat} {zq zx : Bool} {va : AV} (H : Holds h b l0) (dQ : Dg Q) (dX : Dg X) (hs : N < 17179869184) : ∀ (m i : Nat) (l : List Nat) (c : Nat),m + i = N→l.length = N→Dg l→c≤1→val (l.take i) + 4294967296 ^ i * c = val (Q.take i) + val (X.take i) →
  Post (evL G T ZeV [(0,va),(5,D zx X),(6,D zq Q),(9,.own b 0 N 1),(10,.int .u32 (c : Int)),(42,.int .i64 (N : Int)),(43,.int .i64 (i : Int))] (put h b l)) fun r =>
   ∃ e l' c',r = (.exit 2,(0,va) :: (5,D zx X) :: (6,D zq Q) :: (9,.own b 0 N 1) :: (10,.int .u32 ((c' : Nat) : Int)) :: e,put h b l')∧l'.length = N∧Dg l'∧val l' + 4294967296 ^ N * c' = val (Q.take N) + val (X.take N)
 | 0,i,l,c,hm,hl,dl',hc,he => by
  rw [Zae G T (c:=ZeV) rfl]
  have h1 : ¬ (i : Int) < (N : Int):=by omega
  repeat (first | (simp (maxSteps:=9^7) only [seval,evB,Zco,h1]) | (simp (disch:=omega) only [dsB]))
  obtain rfl : i = N:=by omega
  rw [List.take_of_length_le (by omega)] at he
  exact Post.some ⟨_,_,_,rfl,hl,dl',he⟩
 | m + 1,i,l,c,hm,hl,dl',hc,he => by
  rw [Zae G T (c:=ZeV) rfl]
  have h1 : (i : Int) < (N : Int):=by omega
  have e7 : (i : Int) + 1 = ((i + 1 : Nat) : Int):=by omega
  have HU:=H.put l
  have hx:=dX.dg i
  have hq:=dQ.dg i
  obtain ⟨d,z,hd1,hz,hdz⟩:=ZuW hq hx hc
  have call:=ZgW (G:=G) J hq hx hc hd1 hz hdz
  have st:=ZcS HU (i:=i) (x:=d) (by omega)
  rw [ZiQ] at st
  have fin:=ZtS J (zq:=zq) (zx:=zx) (va:=va) H dQ dX hs m (i + 1) (l.set i d) z (by omega) (by rw [List.length_set]; exact hl) (Zeu dl' hd1) hz (by
   rw [ZtU (by omega),Zab,Zab]
   exact ZlW (by rw [List.length_take]; omega) he (by omega))
  by_cases c1 : (i : Int) < (Q.length : Int)
  ·by_cases c2 : (i : Int) < (X.length : Int)
   ·repeat (first | (simp (maxSteps:=9^7) only [seval,evB,Zco,h1,c1,c2,e7,call,st]) | (simp (disch:=omega) only [dsB]))
    exact fin
   ·have z2 : dg X i = 0:=Zit (by omega)
    rw [z2,cast0] at call
    repeat (first | (simp (maxSteps:=9^7) only [seval,evB,Zco,h1,c1,c2,e7,call,st]) | (simp (disch:=omega) only [dsB]))
    exact fin
  ·have z1 : dg Q i = 0:=Zit (by omega)
   rw [z1,cast0] at call
   by_cases c2 : (i : Int) < (X.length : Int)
   ·repeat (first | (simp (maxSteps:=9^7) only [seval,evB,Zco,h1,c1,c2,e7,call,st]) | (simp (disch:=omega) only [dsB]))
    exact fin
   ·have z2 : dg X i = 0:=Zit (by omega)
    rw [z2,cast0] at call
    repeat (first | (simp (maxSteps:=9^7) only [seval,evB,Zco,h1,c1,c2,e7,call,st]) | (simp (disch:=omega) only [dsB]))
    exact fin
theorem newton {a x : Nat} (ha : 0 < a) (hx : 0 < x) : a < ((a / x + x) / 2 + 1) * ((a / x + x) / 2 + 1)∧0 < (a / x + x) / 2:=by
 have h1:=Nat.div_add_mod a x
 have h2:=Nat.mod_lt a hx
 generalize hq : a / x = q at *
 constructor
 ·obtain ⟨w,hw⟩ : ∃ w,w = (q + x) / 2 + 1:=⟨_,rfl⟩
  rw [← hw]
  have h3 : q + x + 1≤2 * w:=by omega
  have h4 : (q + 1 + x) * (q + 1 + x)≤(2 * w) * (2 * w):=Nat.mul_le_mul (by omega) (by omega)
  have h5 : 4 * ((q + 1) * x)≤(q + 1 + x) * (q + 1 + x):=by
   rcases Nat.le_total (q + 1) x with h | h
   ·obtain ⟨d,rfl⟩:=Nat.exists_eq_add_of_le h
    generalize q + 1 = p
    have : (p + (p + d)) * (p + (p + d)) = 4 * (p * (p + d)) + d * d:=by
     simp only [Nat.mul_add,Nat.add_mul,Nat.mul_comm d p]; omega
    omega
   ·obtain ⟨d,hd⟩:=Nat.exists_eq_add_of_le h
    rw [hd]
    have : (x + d + x) * (x + d + x) = 4 * ((x + d) * x) + d * d:=by
     simp only [Nat.mul_add,Nat.add_mul,Nat.mul_comm d x]; omega
    omega
  have h6 : (2 * w) * (2 * w) = 4 * (w * w):=by
   rw [Nat.mul_mul_mul_comm]
  have h7 : a < (q + 1) * x:=by rw [Nat.add_mul,Nat.one_mul,Nat.mul_comm]; omega
  omega
 ·apply Classical.byContradiction
  intro hc
  have h3 : q + x≤1:=by omega
  obtain rfl : x = 1:=by omega
  obtain rfl : q = 0:=by omega
  omega
theorem Zuw {a x : Nat} (hx : 0 < x) (h : x≤(a / x + x) / 2) : x * x≤a:=by
 have h1 : x≤a / x:=by omega
 exact (Nat.le_div_iff_mul_le hx).1 h1
theorem Zqw {h : Heap} {b : Nat} {l : List Nat} (H : Holds h b l) : reachG h.mem 3 b = [b]:=by
 cases h with
 | mk bs fs => rw [rg_x,H.at_,Zpf,Zpg]
theorem ZuL {h : Heap} {b : Nat} {l : List Nat} (H : Holds h b l) (hf : FreH h) (r : AV) : FreH ⟨h.b,fz1 r [b] ++ h.f⟩:=by
 intro c hc
 rcases List.mem_append.1 hc with h1 | h1
 ·unfold fz1 at h1
  split at h1
  ·have:=List.mem_singleton.1 h1; subst this; exact H.lt
  ·exact absurd h1 List.not_mem_nil
 ·exact hf c h1
theorem Zvz {a b : Nat} : cmpN a b = 0↔a = b:=by
 unfold cmpN; split
 ·constructor <;> intro <;> omega
 ·split <;> constructor <;> intro <;> omega
theorem Zxb (J : Al G T g) {z : Bool} {a : Nat} (ha : mayL (dl a) = true) (ha0 : 0 < a) : ∀ (x : Nat) (h : Heap) (zx : Bool),FreH h→0 < x→mayL (dl x) = true→a < (x + 1) * (x + 1) →
  Post (evL G T ZhE [(0,D z (dl a)),(5,D zx (dl x))] h) fun R =>
   ∃ e h' r z',R = (.ret,(2,D z' (dl r)) :: (3,.bool (decide (r * r = a))) :: (4,.int .i64 0) :: e,h')∧r * r≤a∧a < (r + 1) * (r + 1):=by
 intro x
 induction x using Nat.strongRecOn with
 | ind x ih =>
  intro h zx hf hx hmx hlt
  rw [Zae G T (c:=ZhE) rfl]
  have la:=(ZaG.1 ha).1
  have lx:=(ZaG.1 hmx).1
  obtain ⟨zq,zr,hq⟩:=ZdT (G:=G) J (z:=z) (y:=zx) ha hmx (by omega)
  have hqa : a / x≤a:=Nat.div_le_self _ _
  have lq : (dl (a / x)).length≤4096:=by
   have h1:=Zax hqa
   have h2:=Zaa (a / x)
   have h3:=Zaa a
   omega
  obtain ⟨nw1,nw2⟩:=newton ha0 hx
  have nw3:=Zuw (a:=a) hx
  generalize a / x = q at *
  obtain ⟨N,hN⟩ : ∃ N,N = max (dl q).length (dl x).length + 1:=⟨_,rfl⟩
  have e1 : max ((dl q).length : Int) ((dl x).length : Int) + 1 = (N : Int):=by omega
  have H0:=Zbs hf (List.replicate N 0)
  obtain ⟨_,hr,e,l',c',rfl,hl,dl2,hv⟩:=ZtS (G:=G) (zq:=zq) (zx:=zx) (va:=D z (dl a)) J H0 (Zas q) (Zas x) (N:=N) (by omega) N 0 (List.replicate N 0) 0 (by omega) (List.length_replicate ..) (Ziu _) (by decide) (by simp [val])
  rw [Ztf H0,cast0] at hr
  rw [List.take_of_length_le (by omega),List.take_of_length_le (by omega),ZaI,ZaI] at hv
  have hl4:=ZdE dl2
  rw [hl] at hl4
  have hsum : q + x < 4294967296 ^ N:=by
   have h1 : q < 4294967296 ^ (N - 1):=ZbL.1 (by omega)
   have h2 : x < 4294967296 ^ (N - 1):=ZbL.1 (by omega)
   have h3 : 4294967296 ^ N = 4294967296 ^ (N - 1) * 4294967296:=by rw [← Nat.pow_succ,show (N - 1).succ = N by omega]
   rw [h3]; omega
  have hval : val l' = q + x:=by
   rcases Nat.eq_zero_or_pos c' with h1 | h1
   ·subst h1; rw [Nat.mul_zero] at hv; omega
   ·have : 4294967296 ^ N * 1≤4294967296 ^ N * c':=Nat.mul_le_mul_left _ h1
    omega
  have H1:=H0.put l'
  have hsn:=ZbW H1 (n:=N) (by omega)
  rw [← hl,List.take_length,hl] at hsn
  obtain ⟨z1,hz1⟩:=Zbr (G:=G) J (z:=false) dl2 (by omega)
  rw [hval] at hz1
  have lsum : (dl (q + x)).length≤N:=ZbL.2 hsum
  obtain ⟨z2,hz2⟩:=ZkF (G:=G) J (z:=z1) (a:=q + x) (n:=1) (by omega) (by decide)
  rw [Nat.pow_one,show ((1 : Nat) : Int) = 1 from rfl] at hz2
  generalize hy : (q + x) / 2 = y at *
  have ly : (dl y).length≤N:=by
   have h1:=Zax (a:=y) (b:=q + x) (by omega)
   have h2:=Zaa y
   have h3:=Zaa (q + x)
   omega
  have hc:=ZjY (G:=G) J (z:=z2) (y:=zx) (a:=y) (b:=x) (by omega) (by omega)
  have hf2 : FreH ⟨(put (new h (List.replicate N 0)) h.b.length l').b,fz1 (D z1 (dl (q + x))) [h.b.length] ++ (put (new h (List.replicate N 0)) h.b.length l').f⟩:=ZuL H1 ((hf.new _).put _ _) _
  have hre:=Zqw H1
  by_cases c1 : y < x
  ·have c2 : ¬ 0≤cmpN y x:=by have:=Zfj.2 c1; omega
   have hmy : mayL (dl y) = true:=by
    rw [ZaG]; refine ⟨?_,ZAY _⟩
    have h1:=Zax (Nat.le_of_lt c1)
    have h2:=Zaa y
    have h3:=Zaa x
    omega
   have fin:=ih y c1 _ z2 hf2 nw2 hmy nw1
   clear nw1 nw3 ih hv hl4 hsum hlt hy
   repeat (first | (simp (maxSteps:=9^7) only [seval,evB,ZhD,hq,ZiL,e1,hr,hsn,hz1,hz2,hc,c2,ZmN,hre]) | (simp (disch:=omega) only [dsB]))
   exact fin
  ·have c2 : 0≤cmpN y x:=by
    have : ¬ cmpN y x < 0:=fun hh => c1 (Zfj.1 hh)
    omega
   obtain ⟨z3,hz3⟩:=ZoW (G:=G) J (z:=zx) (y:=zx) (a:=x) (b:=x) (by omega)
   have lxx : (dl (x * x)).length≤8192:=by
    have h1:=Zaa (x * x)
    have h2:=Zaa x
    have h3 : blen (x * x)≤blen x + blen x:=by
     rw [Zaf,Nat.pow_add]
     exact Nat.mul_lt_mul'' (ZaO x) (ZaO x)
    omega
   have hc3:=ZjY (G:=G) J (z:=z3) (y:=z) (a:=x * x) (b:=a) (by omega) (by omega)
   have hd : decide (cmpN (x * x) a = 0) = decide (x * x = a):=decide_eq_decide.2 Zvz
   have fin:=nw3 (by omega)
   clear nw1 nw3 ih hv hl4 hsum hy
   repeat (first | (simp (maxSteps:=9^7) only [seval,evB,ZhD,hq,ZiL,e1,hr,hsn,hz1,hz2,hc,c2,ZmN,hre,hz3,hc3,hd]) | (simp (disch:=omega) only [dsB]))
   exact Post.some ⟨_,_,_,_,rfl,fin,hlt⟩
theorem Zme (J : Al G T g) {z : Bool} {a : Nat} (ha : mayL (dl a) = true) :
  ∃ r z',run G T 81 [D z (dl a)] = some (.tup [D z' (dl r),.bool (decide (r * r = a)),.int .i64 0])∧r * r≤a∧a < (r + 1) * (r + 1):=by
 have la:=(ZaG.1 ha).1
 have h1:=Zbc (G:=G) J z (dl a)
 rw [ha] at h1
 by_cases h0 : a = 0
 ·subst h0
  rw [Zag] at *
  refine ⟨0,true,?_,by decide,by decide⟩
  rw [Zac G T J.A.Zme,Zag]
  clear la ha
  repeat' (first|simp (maxSteps:=9^7) only [seval,exC,Zhc,h1]|simp (maxSteps:=9^7) (disch:=first|with_reducible assumption|omega) only [dxB]|(simp only [kdB];split)|(simp only [kvB];split))
  rfl
 ·have hl : ¬ ((dl a).length : Int) = 0:=fun hc => h0 (Zap.1 (by omega))
  have h2:=ZfQ (G:=G) J (z:=z) ha
  have hb : blen a≤131072:=ZcM ha
  have w1 : ((blen a : Nat) : Int) + 1 = ((blen a + 1 : Nat) : Int):=by omega
  have w2 : ((blen a + 1 : Nat) : Int).tdiv 2 = (((blen a + 1) / 2 : Nat) : Int):=rfl
  have w3 : ((blen a + 1 : Nat) : Int) / 2 = (((blen a + 1) / 2 : Nat) : Int):=rfl
  have ltb:=ZaO a
  have hk : blen a≤2 * ((blen a + 1) / 2):=by omega
  have hk2 : (blen a + 1) / 2≤65536:=by omega
  generalize (blen a + 1) / 2 = k at *
  have d1 : dl 1 = [1]:=by rw [ZlK (by decide),Nat.mod_eq_of_lt (by decide),Nat.div_eq_of_lt (by decide),Zag]
  obtain ⟨zx,hz⟩:=Zqn (G:=G) J (z:=false) (a:=1) (n:=k) (by rw [d1]; decide) (by omega)
  rw [Nat.one_mul,d1] at hz
  have hz2 : run G T 91 [.imm 1 [.int .u32 1],.int .i64 (k : Int)] = some (D zx (dl (2 ^ k))):=hz
  have H0 : Holds ⟨[⟨[.int .u32 1],false⟩],[]⟩ 0 [1]:=⟨rfl,rfl⟩
  have hre:=Zqw H0
  have hf : FreH ⟨[⟨[.int .u32 1],false⟩],fz1 (D zx (dl (2 ^ k))) [0] ++ []⟩:=ZuL H0 (fun c hc => absurd hc List.not_mem_nil) _
  rw [List.append_nil] at hf
  have hmx : mayL (dl (2 ^ k)) = true:=Zal (by
   have:=ZBe (n:=2 ^ k) (k:=k) (Nat.le_refl _) (Nat.pow_lt_pow_right (by decide) (Nat.lt_succ_self k)); omega)
  have hlt : a < (2 ^ k + 1) * (2 ^ k + 1):=by
   have e1 : a < 2 ^ k * 2 ^ k:=by
    rw [← Nat.pow_add]
    exact Nat.lt_of_lt_of_le ltb (Nat.pow_le_pow_right (by decide) (by omega))
   exact Nat.lt_of_lt_of_le e1 (Nat.mul_le_mul (by omega) (by omega))
  obtain ⟨_,hr,e,h',r,z',rfl,p1,p2⟩:=Zxb (G:=G) J (z:=z) ha (by omega) (2 ^ k) _ zx hf (Nat.two_pow_pos k) hmx hlt
  refine ⟨r,z',?_,p1,p2⟩
  rw [Zac G T J.A.Zme]
  clear ltb hk hlt hmx p1 p2 ha hf
  repeat' (first|simp (maxSteps:=9^7) only [seval,exC,Zhc,h1,h2,hl,w1,w2,w3,hz,hz2,hre,hr]|simp (maxSteps:=9^7) (disch:=first|with_reducible assumption|omega) only [dxB]|(simp only [kdB];split)|(simp only [kvB];split))
theorem Zui (h : Heap) : snapG (Heap.mem ⟨h.b ++ [⟨[.int .u32 1],false⟩],h.f⟩) 3 h.b.length 0 1 1 = some (D false [1]):=by
 have e : (Heap.mem ⟨h.b ++ [⟨[.int .u32 1],false⟩],h.f⟩) h.b.length = some ⟨cells [1],false⟩:=by
  simp [Heap.mem,cells]
 exact Znv (d:=2) (l:=[1]) (by rw [rdBlk,e]; rfl) rfl
theorem ZvS {a i : Nat} : a / 2 ^ i = 4 * (a / 2 ^ (i + 2)) + (2 * (a / 2 ^ (i + 1) % 2) + a / 2 ^ i % 2):=by
 rw [Nat.pow_succ,Nat.pow_succ,← Nat.div_div_eq_div_mul,← Nat.div_div_eq_div_mul]; omega
theorem ZyD {r s v p : Nat} (h : p = r * r + s) (hs : s≤2 * r) (hv : v < 4) (hc : 4 * r + 1≤4 * s + v) :
  4 * p + v = (2 * r + 1) * (2 * r + 1) + (4 * s + v - (4 * r + 1))∧4 * s + v - (4 * r + 1)≤2 * (2 * r + 1):=by
 have e : (2 * r + 1) * (2 * r + 1) = 4 * (r * r) + 4 * r + 1:=by
  simp only [Nat.mul_add,Nat.add_mul,Nat.mul_one,Nat.one_mul]
  have : 2 * r * (2 * r) = 4 * (r * r):=by rw [Nat.mul_mul_mul_comm]
  omega
 rw [e,h]; omega
theorem ZBS {r s v p : Nat} (h : p = r * r + s) (hc : 4 * s + v < 4 * r + 1) :
  4 * p + v = (2 * r) * (2 * r) + (4 * s + v)∧4 * s + v≤2 * (2 * r):=by
 have e : 2 * r * (2 * r) = 4 * (r * r):=by rw [Nat.mul_mul_mul_comm]
 rw [e,h]; omega
theorem ZyC {r s a : Nat} (h : a = r * r + s) (hs : s≤2 * r) : r * r≤a∧a < (r + 1) * (r + 1)∧(s = 0↔r * r = a):=by
 have e : (r + 1) * (r + 1) = r * r + 2 * r + 1:=by
  simp only [Nat.mul_add,Nat.add_mul,Nat.mul_one,Nat.one_mul]; omega
 rw [e]; omega
theorem Znq {r t a : Nat} (h1 : r * r≤a) (h2 : a < (r + 1) * (r + 1)) (h3 : t * t≤a) (h4 : a < (t + 1) * (t + 1)) : r = t:=by
 rcases Nat.lt_trichotomy r t with h | h | h
 ·have : (r + 1) * (r + 1)≤t * t:=Nat.mul_le_mul h h
  omega
 ·exact h
 ·have : (t + 1) * (t + 1)≤r * r:=Nat.mul_le_mul h h
  omega
theorem Zsi (bs : List Blk) (f : List Nat) : snapG (Heap.mem ⟨bs ++ [⟨[.int .u32 1],false⟩],f⟩) 3 bs.length 0 1 1 = some (D false [1]):=Zui ⟨bs,f⟩
theorem ZES {x k : Nat} (h : x < 2 ^ k) : (dl x).length≤(k + 31) / 32:=by
 have h1:=Zaa x
 have h2:=Zaf.2 h
 omega
theorem ZlA (J : Al G T g) {a : Nat} {z : Bool} (ha : (dl a).length < 1073741824) : ∀ (j : Nat) (h : Heap) (zr zs : Bool) (r s : Nat),
  2 * j < 68719476736→a / 2 ^ (2 * j) = r * r + s→s≤2 * r →
  Post (evL G T Zce [(0,D z (dl a)),(4,D zr (dl r)),(5,D zs (dl s)),(7,.int .i64 (2 * (j : Int) - 2))] h) fun R =>
   ∃ e h' zr' zs' r' s',R = (.exit 0,(0,D z (dl a)) :: (4,D zr' (dl r')) :: (5,D zs' (dl s')) :: e,h')∧a = r' * r' + s'∧s'≤2 * r'
 | 0,h,zr,zs,r,s,hj,he,hs => by
  rw [Zae G T (c:=Zce) rfl]
  have c1 : ¬ (0 : Int)≤2 * ((0 : Nat) : Int) - 2:=by omega
  repeat (first | (simp (maxSteps:=9^7) only [seval,evB,Zdk,c1]) | (simp (disch:=omega) only [dsB]))
  rw [Nat.mul_zero,Nat.pow_zero,Nat.div_one] at he
  exact Post.some ⟨_,_,_,_,_,_,rfl,he,hs⟩
 | j + 1,h,zr,zs,r,s,hj,he,hs => by
  rw [Zae G T (c:=Zce) rfl]
  have e1 : 2 * ((j + 1 : Nat) : Int) - 2 = ((2 * j : Nat) : Int):=by omega
  have e2 : ((2 * j : Nat) : Int) - 2 = 2 * (j : Int) - 2:=by omega
  have e3 : ((2 * j : Nat) : Int) + 1 = ((2 * j + 1 : Nat) : Int):=by omega
  have c1 : (0 : Int)≤((2 * j : Nat) : Int):=by omega
  have u1:=ZiR (G:=G) J (z:=z) (a:=a) (i:=2 * j + 1) (by omega) (by omega)
  have u0:=ZiR (G:=G) J (z:=z) (a:=a) (i:=2 * j) (by omega) (by omega)
  have hfd:=ZvS (a:=a) (i:=2 * j)
  rw [show 2 * j + 2 = 2 * (j + 1) by omega,he] at hfd
  have b1 : a / 2 ^ (2 * j + 1) % 2 < 2:=Nat.mod_lt _ (by decide)
  have b0 : a / 2 ^ (2 * j) % 2 < 2:=Nat.mod_lt _ (by decide)
  generalize a / 2 ^ (2 * j + 1) % 2 = t1 at *
  generalize a / 2 ^ (2 * j) % 2 = t0 at *
  have hra : r * r≤a:=by
   have:=Nat.div_le_self a (2 ^ (2 * (j + 1))); omega
  have hr0 : r≤a:=Nat.le_trans (Nat.le_mul_self r) hra
  have lr : ∀ x,x≤16 * a + 16→(dl x).length < 1073741900:=fun x hx => by
   have h1 : a < 2 ^ blen a:=ZaO a
   have h2:=ZES (x:=x) (k:=blen a + 6) (by rw [Nat.pow_add]; omega)
   have h3:=Zaa a
   omega
  have w1 : mulW 2 (t1 : Int) = ((2 * t1 : Nat) : Int):=by rw [Zrt]; omega
  have w2 : (((2 * t1 : Nat) : Int) + (t0 : Int)) % 4294967296 = ((2 * t1 + t0 : Nat) : Int):=by omega
  have w3 : ((2 * t1 + t0 : Nat) : Int) % 18446744073709551616 = ((2 * t1 + t0 : Nat) : Int):=by omega
  obtain ⟨z1,v1⟩:=Zfm (G:=G) J (z:=zs) (a:=s) (n:=2) (by have:=lr s (by omega); omega) (by decide)
  obtain ⟨z2,v2⟩:=Zjz (G:=G) J (n:=2 * t1 + t0) (by omega)
  obtain ⟨z3,v3⟩:=Zhm (G:=G) J (z:=z1) (y:=z2) (a:=s * 2 ^ 2) (b:=2 * t1 + t0) (by have:=lr (s * 2 ^ 2) (by omega); omega) (by have:=lr (2 * t1 + t0) (by omega); omega)
  obtain ⟨z4,v4⟩:=Zfm (G:=G) J (z:=zr) (a:=r) (n:=2) (by have:=lr r (by omega); omega) (by decide)
  obtain ⟨z5,v5⟩:=Zhm (G:=G) J (z:=z4) (y:=false) (a:=r * 2 ^ 2) (b:=1) (by have:=lr (r * 2 ^ 2) (by omega); omega) (by rw [Zso]; decide)
  obtain ⟨z6,v6⟩:=Zfm (G:=G) J (z:=zr) (a:=r) (n:=1) (by have:=lr r (by omega); omega) (by decide)
  obtain ⟨z7,v7⟩:=Zhm (G:=G) J (z:=z6) (y:=false) (a:=r * 2 ^ 1) (b:=1) (by have:=lr (r * 2 ^ 1) (by omega); omega) (by rw [Zso]; decide)
  have cm:=ZkN (G:=G) J (z:=z3) (y:=z5) (a:=s * 2 ^ 2 + (2 * t1 + t0)) (b:=r * 2 ^ 2 + 1) (by have:=lr (s * 2 ^ 2 + (2 * t1 + t0)) (by omega); omega) (by have:=lr (r * 2 ^ 2 + 1) (by omega); omega)
  rw [Zso] at v5 v7
  rw [show ((2 : Nat) : Int) = 2 from rfl] at v1 v4
  rw [show ((1 : Nat) : Int) = 1 from rfl] at v6
  rw [e1]
  by_cases c2 : s * 2 ^ 2 + (2 * t1 + t0) < r * 2 ^ 2 + 1
  ·have c3 : ¬ 0≤cmpN (s * 2 ^ 2 + (2 * t1 + t0)) (r * 2 ^ 2 + 1):=by have:=Zfj.2 c2; omega
   obtain ⟨p1,p2⟩:=ZBS (p:=r * r + s) (v:=2 * t1 + t0) rfl (by omega)
   have fin:=fun h => ZlA J (z:=z) ha j h z6 z3 (r * 2 ^ 1) (s * 2 ^ 2 + (2 * t1 + t0)) (by omega) (by rw [hfd,p1,show r * 2 ^ 1 = 2 * r by omega,show s * 2 ^ 2 = 4 * s by omega]) (by omega)
   clear hfd he hra hr0 lr p1 p2 hs c2
   repeat (first | (simp (maxSteps:=9^7) only [seval,evB,Zdk,c1,e2,e3,u1,u0,w1,w2,w3,v1,v2,v3,v4,v5,v6,Zsi,cm,c3]) | (simp (disch:=omega) only [dsB]))
   exact fin _
  ·have c3 : 0≤cmpN (s * 2 ^ 2 + (2 * t1 + t0)) (r * 2 ^ 2 + 1):=by
    have : ¬ cmpN (s * 2 ^ 2 + (2 * t1 + t0)) (r * 2 ^ 2 + 1) < 0:=fun hh => c2 (Zfj.1 hh)
    omega
   obtain ⟨z8,v8⟩:=ZiS (G:=G) J (z:=z3) (y:=z5) (a:=s * 2 ^ 2 + (2 * t1 + t0)) (b:=r * 2 ^ 2 + 1) (by have:=lr (s * 2 ^ 2 + (2 * t1 + t0)) (by omega); omega) (by omega)
   obtain ⟨p1,p2⟩:=ZyD (p:=r * r + s) (v:=2 * t1 + t0) rfl hs (by omega) (by omega)
   have fin:=fun h => ZlA J (z:=z) ha j h z7 z8 (r * 2 ^ 1 + 1) (s * 2 ^ 2 + (2 * t1 + t0) - (r * 2 ^ 2 + 1)) (by omega) (by rw [hfd,p1,show r * 2 ^ 1 = 2 * r by omega,show s * 2 ^ 2 = 4 * s by omega,show r * 2 ^ 2 = 4 * r by omega]) (by omega)
   clear hfd he hra hr0 lr p1 p2 hs c2
   repeat (first | (simp (maxSteps:=9^7) only [seval,evB,Zdk,c1,e2,e3,u1,u0,w1,w2,w3,v1,v2,v3,v4,v5,v6,v7,v8,Zsi,cm,c3]) | (simp (disch:=omega) only [dsB]))
   exact fin _
theorem ZjA (J : Al G T g) {a : Nat} {z : Bool} (ha : (dl a).length < 1073741824) :
  ∃ r z',run G T 82 [D z (dl a)] = some (.tup [D z' (dl r),.bool (decide (r * r = a))])∧r * r≤a∧a < (r + 1) * (r + 1):=by
 have hla:=Zaa a
 have l1:=ZdC (G:=G) J (z:=z) (a:=a) (by omega)
 obtain ⟨j,hj⟩ : ∃ j,j = (blen a + 1) / 2:=⟨_,rfl⟩
 have h0 : a / 2 ^ (2 * j) = 0 * 0 + 0:=by
  rw [Nat.div_eq_of_lt (Nat.lt_of_lt_of_le (ZaO a) (Nat.pow_le_pow_right (by decide) (by omega)))]
 obtain ⟨_,hr,e,h',zr',zs',r',s',rfl,he,hs⟩:=ZlA (G:=G) (z:=z) J ha j .nil true true 0 0 (by omega) h0 (by decide)
 obtain ⟨p1,p2,p3⟩:=ZyC he hs
 have hr : evL G T Zce [(0,D z (dl a)),(4,.nil),(5,.nil),(7,.int .i64 (2 * (j : Int) - 2))] ⟨[],[]⟩ = some (Ex.exit 0,(0,D z (dl a)) :: (4,D zr' (dl r')) :: (5,D zs' (dl s')) :: e,h'):=by
  rw [Zag] at hr; exact hr
 have hd : decide (((dl s').length : Int) = 0) = decide (r' * r' = a):=by
  refine decide_eq_decide.2 ?_
  rw [← p3,← Zap]; omega
 refine ⟨r',zr',?_,p1,p2⟩
 rw [Zac G T J.B.ZjA]
 have w1 : ((blen a : Nat) : Int).tmod 2 = ((blen a % 2 : Nat) : Int):=rfl
 have w2 : ((blen a : Nat) : Int) % 2 = ((blen a % 2 : Nat) : Int):=rfl
 by_cases ho : blen a % 2 = 1
 ·have c1 : ((blen a % 2 : Nat) : Int) = 1:=by omega
  have e1 : ((blen a : Nat) : Int) + 1 - 2 = 2 * (j : Int) - 2:=by omega
  have w3 : IntKind.i64.wrap (((blen a : Nat) : Int) + 1) = ((blen a : Nat) : Int) + 1:=Zad (by omega)
  have w4 : IntKind.i64.wrap (2 * (j : Int) - 2) = 2 * (j : Int) - 2:=Zad (by omega)
  clear h0 he hs p1 p2 p3 hla ha
  repeat' (first|simp (maxSteps:=9^7) only [seval,exC,Zey,l1,w1,w2,c1,w3,e1,w4,hr,hd]|simp (maxSteps:=9^7) (disch:=first|with_reducible assumption|omega) only [dxB]|(simp only [kdB];split)|(simp only [kvB];split))
 ·have c1 : ¬ ((blen a % 2 : Nat) : Int) = 1:=by omega
  have e1 : ((blen a : Nat) : Int) - 2 = 2 * (j : Int) - 2:=by omega
  have w4 : IntKind.i64.wrap (2 * (j : Int) - 2) = 2 * (j : Int) - 2:=Zad (by omega)
  clear h0 he hs p1 p2 p3 hla ha
  repeat' (first|simp (maxSteps:=9^7) only [seval,exC,Zey,l1,w1,w2,c1,e1,w4,hr,hd]|simp (maxSteps:=9^7) (disch:=first|with_reducible assumption|omega) only [dxB]|(simp only [kdB];split)|(simp only [kvB];split))
theorem Zjp (J : Al G T g) {n : Nat} (h : 1≤n∧n≤8192) : run G T 75 [.int .i64 (n : Int)] = some (.int .i64 0):=by
 rw [Zac G T J.C.Zjp]
 have c1 : ¬ (n : Int) < 1:=by omega
 have c2 : ¬ (8192 : Int) < (n : Int):=by omega
 repeat' (first|simp (maxSteps:=9^7) only [seval,exC,Zgc,c1,c2]|simp (maxSteps:=9^7) (disch:=first|with_reducible assumption|omega) only [dxB]|(simp only [kdB];split)|(simp only [kvB];split))
theorem ZiT (J : Al G T g) {z : Bool} {d : Dy} {k s : Nat} (hs : (dl d.m).length < 17179869183) (he : -274877906944 < d.e∧d.e < 274877906944) (hk : blen d.m = k + s) (h0 : 0 < s) (hkk : k < 8192) (hb : blen d.m < 274877906944) :
  ∃ z',run G T 80 [DyA z d,.int .i64 (k : Int)] = some (.tup [DyA z' (mkD d.n (d.m / 2 ^ s) (d.e + s)),.bool (!decide (d.m % 2 ^ s = 0))]):=by
 obtain ⟨n,m,e⟩:=d
 simp only at *
 have l1:=ZdC (G:=G) J (z:=z) (a:=m) (by omega)
 obtain ⟨z1,h1⟩:=Zjy (G:=G) J (z:=z) (a:=m) (n:=s) (by omega) (by omega)
 have hlen : (dl (m / 2 ^ s)).length < 17179869184:=by
  have h1:=Zax (Nat.div_le_self m (2 ^ s))
  have h2:=Zaa (m / 2 ^ s)
  omega
 obtain ⟨z2,h2⟩:=Zbf (G:=G) J (n:=n) (z:=z1) (a:=m / 2 ^ s) (e:=e + s) hlen (by omega)
 have w1 : ((blen m : Nat) : Int) - (k : Int) = (s : Int):=by omega
 have w2 : ¬ (s : Int)≤0:=by omega
 have w3 : IntKind.i64.wrap (e + (s : Int)) = e + s:=Zad (by omega)
 refine ⟨z2,?_⟩
 rw [Zac G T J.C.ZiT]
 clear hlen hk
 simp only [DyA,A3] at *
 repeat' (first|simp (maxSteps:=9^7) only [seval,exC,ZfK,l1,w1,w2,w3,h1,h2]|simp (maxSteps:=9^7) (disch:=first|with_reducible assumption|omega) only [dxB]|(simp only [kdB];split)|(simp only [kvB];split))
theorem Zkx (J : Al G T g) {z n more : Bool} {q k s : Nat} {e : Int} (hm : mayL (dl q) = true) (hk : blen q = k + s) (h0 : 0 < s) (he : -16000000 < e∧e < 16000000) :
  ∃ z',run G T 78 [.bool n,D z (dl q),.int .i64 e,.bool more,.int .i64 (k : Int)] = some (.tup [DyA z' (mkD n (q / 2 ^ s) (e + s)),.bool (!decide (q % 2 ^ s = 0) || more),.int .i64 0]):=by
 have hb:=ZcM hm
 have l1:=ZfQ (G:=G) J (z:=z) hm
 obtain ⟨z1,h1⟩:=Zeq (G:=G) J (z:=z) (a:=q) (n:=s) hm h0 (by omega)
 have hbd:=Zaj q s
 have hm2 : mayL (dl (q / 2 ^ s)) = true:=Zal (by omega)
 have htz : tz (q / 2 ^ s)≤131072∨q / 2 ^ s = 0:=by
  by_cases hz : q / 2 ^ s = 0
  ·exact Or.inr hz
  ·left; have:=ZfW hz; omega
 obtain ⟨z2,h2⟩:=Zbv (G:=G) J (n:=n) (z:=z1) (a:=q / 2 ^ s) (e:=e + s) hm2 (by
  rcases htz with h | h
  ·right; omega
  ·left; exact h) (by omega)
 have w1 : max (0 : Int) ((blen q : Int) - (k : Int)) = (s : Int):=by omega
 have w2 : (0 : Int) - (s : Int) = -(s : Int):=by omega
 have w3 : IntKind.i64.wrap (e + (s : Int)) = e + s:=Zad (by omega)
 have w4 : IntKind.i64.wrap ((blen q : Int) - (k : Int)) = (blen q : Int) - (k : Int):=Zad (by omega)
 have w5 : IntKind.i64.wrap (-(s : Int)) = -(s : Int):=Zad (by omega)
 refine ⟨z2,?_⟩
 rw [Zac G T J.C.Zkx]
 clear hm2 htz hbd hk hb hm
 simp only [DyA,A3] at *
 generalize decide (q % 2 ^ s = 0) = o at *
 cases o <;> cases more <;> repeat' (first|simp (maxSteps:=9^7) only [seval,exC,ZhB,l1,w1,w2,w3,w4,w5,ZiL,h1,h2]|simp (maxSteps:=9^7) (disch:=first|with_reducible assumption|omega) only [dxB]|(simp only [kdB];split)|(simp only [kvB];split))
def quoN (k a b : Nat) : Nat:=k + 1 + blen b - blen a
theorem ZkL {k a b : Nat} (ha : a≠0) (hb : b≠0) : k < blen (a * 2 ^ quoN k a b / b):=by
 rw [Zau]
 have h1 : 2 ^ k * b≤a * 2 ^ quoN k a b:=by
  have e1:=ZaO b
  have e2:=ZaW ha
  have e3:=Zbg ha
  calc 2 ^ k * b≤2 ^ k * 2 ^ blen b:=Nat.mul_le_mul_left _ (Nat.le_of_lt e1)
   _ = 2 ^ (k + blen b):=(Nat.pow_add ..).symm
   _≤2 ^ (blen a - 1 + quoN k a b):=Nat.pow_le_pow_right (by decide) (by unfold quoN; omega)
   _ = 2 ^ (blen a - 1) * 2 ^ quoN k a b:=Nat.pow_add ..
   _≤a * 2 ^ quoN k a b:=Nat.mul_le_mul_right _ e2
 exact (Nat.le_div_iff_mul_le (by omega)).2 h1
theorem ZBk {Q t S : Nat} (h : t≤S) : Q / 2 ^ t / 2 ^ (S - t) = Q / 2 ^ S:=by
 rw [Nat.div_div_eq_div_mul,← Nat.pow_add,show t + (S - t) = S by omega]
theorem ZBE {Q t S : Nat} (h : t≤S) (ht : Q % 2 ^ t = 0) : Q / 2 ^ t % 2 ^ (S - t) = 0↔Q % 2 ^ S = 0:=by
 have:=ZjV Q t (S - t)
 rw [show t + (S - t) = S by omega] at this
 rw [this]; exact ⟨fun h2 => ⟨ht,h2⟩,fun h2 => h2.2⟩
theorem ZBD {n : Bool} {Q t S : Nat} {e : Int} (h : Q≠0) (h2 : Q / 2 ^ t≠0) (ht : Q % 2 ^ t = 0) : mkD n (Q / 2 ^ t) (e + t) = mkD n Q e:=by
 have e1 : Q = Q / 2 ^ t * 2 ^ t:=by
  have:=Nat.div_add_mod Q (2 ^ t)
  rw [ht,Nat.add_zero,Nat.mul_comm] at this; exact this.symm
 have e2 : tz Q = tz (Q / 2 ^ t) + t:=by
  conv => lhs; rw [e1]
  exact ZAM h2 t
 rw [Zaz h,Zaz h2,e2,Nat.div_div_eq_div_mul,← Nat.pow_add,Nat.add_comm t]
 congr 1; omega
theorem ZiU (J : Al G T g) {z : Bool} {d : Dy} {k : Nat} (hs : (dl d.m).length < 17179869183) (hk : blen d.m≤k) (hkk : k < 8192) :
  run G T 80 [DyA z d,.int .i64 (k : Int)] = some (.tup [DyA z d,.bool false]):=by
 obtain ⟨n,m,e⟩:=d
 simp only at *
 have l1:=ZdC (G:=G) J (z:=z) (a:=m) (by omega)
 have w2 : ((blen m : Nat) : Int) - (k : Int)≤0:=by omega
 have w4 : IntKind.i64.wrap ((blen m : Int) - (k : Int)) = (blen m : Int) - (k : Int):=Zad (by omega)
 rw [Zac G T J.C.ZiT]
 clear hs hk
 simp only [DyA,A3] at *
 repeat' (first|simp (maxSteps:=9^7) only [seval,exC,ZfK,l1,w2,w4]|simp (maxSteps:=9^7) (disch:=first|with_reducible assumption|omega) only [dxB]|(simp only [kdB];split)|(simp only [kvB];split))
theorem Zyh (J : Al G T g) {n z : Bool} {Q k S : Nat} {e : Int} (hl : (dl Q).length < 1048576) (hS : blen Q = k + S) (h0 : 0 < S) (hk0 : 0 < k) (hk : k < 8192) (he : -68719476736 < e∧e < 68719476736) :
  ∃ z',run G T 80 [DyA z (mkD n Q e),.int .i64 (k : Int)] = some (.tup [DyA z' (mkD n (Q / 2 ^ S) (e + S)),.bool (!decide (Q % 2 ^ S = 0))]):=by
 have hQ : Q≠0:=by rintro rfl; rw [Zai] at hS; omega
 have hl2:=Zaa Q
 have t1:=(ZdW hQ).1
 have tm : Q % 2 ^ tz Q = 0:=by
  have:=Nat.mul_mod_left (Q / 2 ^ tz Q) (2 ^ tz Q)
  rw [← t1] at this; exact this
 have tb:=ZfW hQ
 have bd:=Zaj Q (tz Q)
 have ld:=Zaa (Q / 2 ^ tz Q)
 have bS:=Zaj Q S
 have hQS : Q / 2 ^ S≠0:=by intro hc; rw [hc,Zai] at bS; omega
 rcases Nat.lt_or_ge (tz Q) S with h | h
 ·obtain ⟨z',hc⟩:=ZiT (G:=G) J (z:=z) (d:=mkD n Q e) (k:=k) (s:=S - tz Q) (by rw [Zaz hQ]; simp only; omega) (by rw [Zaz hQ]; simp only; omega) (by rw [Zaz hQ]; simp only; omega) (by omega) hk (by rw [Zaz hQ]; simp only; omega)
  refine ⟨z',?_⟩
  rw [hc,Zaz hQ]
  simp only
  rw [ZBk (Nat.le_of_lt h),show e + (tz Q : Int) + ((S - tz Q : Nat) : Int) = e + S by omega]
  congr 4
  simp only [ZBE (Nat.le_of_lt h) tm]
 ·have hm : Q % 2 ^ S = 0:=by
   have e1:=ZjV Q S (tz Q - S)
   rw [show S + (tz Q - S) = tz Q by omega] at e1
   exact (e1.1 tm).1
  have hc:=ZiU (G:=G) J (z:=z) (d:=mkD n Q e) (k:=k) (by rw [Zaz hQ]; simp only; omega) (by rw [Zaz hQ]; simp only; omega) hk
  refine ⟨z,?_⟩
  rw [hc,ZBD (t:=S) (S:=0) hQ hQS hm,hm]; rfl
theorem Zvr (e : Env) (h : Heap) : evL G T ZgM e h = kS G T (evL G T ZgL (keepE [5,6,7] e) h) ZgM:=Zae G T rfl e h
theorem ZiF (J : Al G T g) {n z n' z' : Bool} {l l' : List Nat} (hd : Dg l) (hd' : Dg l') {e e' : Int} :
  run G T 74 [.imm 2 [.bool n,D z l,.int .i64 e,.bool n',D z' l',.int .i64 e']] = some (.bool (mayD n l e && mayD n' l' e')):=by
 rw [Zac G T J.C.ZiF]
 have h2:=Zcu J (n:=n) (z:=z) hd (e:=e)
 have h3:=Zcu J (n:=n') (z:=z') hd' (e:=e')
 simp only [A3] at *
 cases hm : mayD n l e <;> cases hm' : mayD n' l' e' <;> (
  rw [hm] at h2
  rw [hm'] at h3
  repeat' (first|simp (maxSteps:=9^7) only [seval,exC,Zhz,h2,h3,Zvr,ZgL,iad20,iad21,ZBN]|simp (maxSteps:=9^7) (disch:=first|with_reducible assumption|omega) only [dxB]|(simp only [kdB];split)|(simp only [kvB];split))
  all_goals rfl)
theorem Zoy (J : Al G T g) {z y : Bool} {a b : Dy} {k S : Nat} (da : mayD a.n (dl a.m) a.e = true) (db : mayD b.n (dl b.m) b.e = true)
  (ha : a.m≠0) (hb : b.m≠0) (hk : 1≤k∧k≤8192) (hw : quoN k a.m b.m + blen a.m≤131072) (ea : -4000000 < a.e∧a.e < 4000000) (eb : -4000000 < b.e∧b.e < 4000000)
  (hS : blen (a.m * 2 ^ quoN k a.m b.m / b.m) = k + S) :
  ∃ z',run G T 40 [DyA z a,DyA y b,.int .i64 (k : Int)] = some (.tup [DyA z' (mkD (a.n != b.n) (a.m * 2 ^ quoN k a.m b.m / b.m / 2 ^ S) (a.e - b.e - (quoN k a.m b.m : Nat) + S)),
   .bool (!decide (a.m * 2 ^ quoN k a.m b.m / b.m % 2 ^ S = 0) || !decide (a.m * 2 ^ quoN k a.m b.m % b.m = 0)),.int .i64 0]):=by
 have hqb:=ZkL (k:=k) ha hb
 have ma:=(ZbR da).1
 have mb:=(ZbR db).1
 obtain ⟨n,m,e⟩:=a
 obtain ⟨n',m',e'⟩:=b
 simp only at *
 have b0:=ZiF J (n:=n) (z:=z) (n':=n') (z':=y) (Zas m) (Zas m') (e:=e) (e':=e')
 rw [da,db,Bool.and_self] at b0
 have a0:=Zjp J hk
 have l1:=ZfQ J (z:=z) ma
 have l2:=ZfQ J (z:=y) mb
 have bm:=ZcM ma
 have bm':=ZcM mb
 have hN2 : quoN k m m' = k + 1 + blen m' - blen m:=rfl
 generalize quoN k m m' = N at *
 obtain ⟨z1,h1⟩:=Zdb J (z:=z) (a:=m) (n:=N) ma (Or.inr hw) (by omega)
 have bN:=Zam ha N
 have mN : mayL (dl (m * 2 ^ N)) = true:=Zal (by omega)
 obtain ⟨z2,z3,h2⟩:=ZdT J (z:=z1) (y:=y) (a:=m * 2 ^ N) (b:=m') mN mb hb
 have bq:=Zax (Nat.div_le_self (m * 2 ^ N) m')
 have mq : mayL (dl (m * 2 ^ N / m')) = true:=Zal (by omega)
 have hrl : decide ((0 : Int) < ((dl (m * 2 ^ N % m')).length : Int)) = !decide (m * 2 ^ N % m' = 0):=by
  rw [← decide_not]; refine decide_eq_decide.2 ?_
  rw [← Zap]; omega
 generalize m * 2 ^ N / m' = Q at *
 generalize m * 2 ^ N % m' = R at *
 obtain ⟨z5,h4⟩:=Zkx J (n:=n != n') (z:=z2) (more:=!decide (R = 0)) (q:=Q) (k:=k) (s:=S) (e:=e - e' - N) mq hS (by omega) (by omega)
 have c1 : ¬ ((dl m).length : Int) = 0:=fun hc => ha (Zap.1 (by omega))
 have c2 : ¬ ((dl m').length : Int) = 0:=fun hc => hb (Zap.1 (by omega))
 refine ⟨z5,?_⟩
 have hne : (n != n') = !decide (n = n'):=by cases n <;> cases n' <;> rfl
 rw [hne] at h4 ⊢
 rw [Zac G T J.C.Zoy]
 simp only [DyA,A3] at *
 have c3 : ¬ (k : Int) < 1:=by omega
 have wa : IntKind.i64.wrap ((k : Int) + 1) = (k : Int) + 1:=Zad (by omega)
 have wb : IntKind.i64.wrap ((k : Int) + 1 + (blen m' : Int)) = (k : Int) + 1 + (blen m' : Int):=Zad (by omega)
 have wc : IntKind.i64.wrap ((k : Int) + 1 + (blen m' : Int) - (blen m : Int)) = (k : Int) + 1 + (blen m' : Int) - (blen m : Int):=Zad (by omega)
 have wd : IntKind.i64.wrap (e - e') = e - e':=Zad (by omega)
 have we : IntKind.i64.wrap (e - e' - (N : Int)) = e - e' - N:=Zad (by omega)
 have wm : max (0 : Int) ((k : Int) + 1 + (blen m' : Int) - (blen m : Int)) = N:=by omega
 have wf : IntKind.i64.wrap (131072 - (blen m : Int)) = 131072 - (blen m : Int):=Zad (by omega)
 have c4 : ¬ (131072 - (blen m : Int) < (N : Int)):=by omega
 clear bN mN bq mq hqb hS hN2 da db ma mb hw
 generalize decide (Q % 2 ^ S = 0) = o at *
 cases o <;> (repeat' (first|simp (maxSteps:=9^7) only [seval,exC,Zjh,b0,a0,c1,c2,c3,c4,l1,l2,wa,wb,wc,wd,we,wf,wm,ZiL,h1,h2,h4,hrl]|simp (maxSteps:=9^7) (disch:=first|with_reducible assumption|omega) only [dxB]|(simp only [kdB];split)|(simp only [kvB];split)); try rfl)
def shN (m : Nat) (n : Int) : Nat:=if 0≤n then m * 2 ^ n.toNat else m / 2 ^ (-n).toNat
def shB (m : Nat) (n : Int) : Bool:=if 0≤n then false else !decide (m % 2 ^ (-n).toNat = 0)
theorem Ztv {m : Nat} (h : m≠0) {n : Int} (hn : 0≤(blen m : Int) + n) : (blen (shN m n) : Int) = blen m + n:=by
 unfold shN; split
 ·rw [Zam h]; omega
 ·rw [Zaj]; omega
theorem Zqm (J : Al G T g) {z : Bool} {m : Nat} {n : Int} (hm : mayL (dl m) = true) (h1 : (blen m : Int) + n≤131072) (h2 : -1099511627776 < n∧n < 1099511627776) :
  ∃ z',run G T 50 [D z (dl m),.int .i64 n] = some (.tup [D z' (dl (shN m n)),.bool (shB m n),.int .i64 0]):=by
 unfold shN shB
 by_cases h : 0≤n
 ·obtain ⟨z',hz⟩:=Zdb J (z:=z) (a:=m) (n:=n.toNat) hm (by omega) (by omega)
  rw [if_pos h,if_pos h]
  rw [show ((n.toNat : Nat) : Int) = n by omega] at hz
  exact ⟨z',hz⟩
 ·obtain ⟨z',hz⟩:=Zeq J (z:=z) (a:=m) (n:=(-n).toNat) hm (by omega) (by omega)
  rw [if_neg h,if_neg h]
  rw [show -(((-n).toNat : Nat) : Int) = n by omega] at hz
  exact ⟨z',hz⟩
theorem ZfV {k r M : Nat} (h1 : 2 ^ k * 2 ^ k≤M) (h2 : M < (r + 1) * (r + 1)) : k < blen r:=by
 rw [Zau]
 rcases Nat.lt_or_ge r (2 ^ k) with h | h
 ·have:=Nat.mul_le_mul (show r + 1≤2 ^ k by omega) (show r + 1≤2 ^ k by omega)
  omega
 ·exact h
theorem ZxP (x : Int) : andI .i64 x 1 = x % 2:=by
 rw [Zol]
 unfold andI0
 have h1 : (BitVec.ofInt IntKind.i64.bits x &&& BitVec.ofInt IntKind.i64.bits 1).toNat = (x % 18446744073709551616).toNat % 2:=by
  rw [BitVec.toNat_and]
  rw [show (BitVec.ofInt IntKind.i64.bits 1).toNat = 1 from rfl,BitVec.toNat_ofInt]
  rw [show ((2 : Nat) ^ IntKind.i64.bits : Nat) = 18446744073709551616 from rfl]
  exact Zon _
 rw [h1]
 rw [Zad (by omega)]
 omega
set_option maxHeartbeats 2000000 in
theorem ZmG (J : Al G T g) {z : Bool} {d : Dy} {k S : Nat} {n c : Int} {r : Nat} (dd : mayD d.n (dl d.m) d.e = true) (h0 : d.m≠0) (hs : d.n = false)
  (hk : 1≤k∧k≤8192) (hn : n = 2 * k + 2 - blen d.m + (d.e - (2 * k + 2 - blen d.m)) % 2) (hc : d.e - n = 2 * c)
  (r1 : r * r≤shN d.m n) (r2 : shN d.m n < (r + 1) * (r + 1)) (hS : blen r = k + S) :
  ∃ z',run G T 43 [DyA z d,.int .i64 (k : Int)] = some (.tup [DyA z' (mkD false (r / 2 ^ S) (c + S)),
   .bool (!decide (r % 2 ^ S = 0) || (shB d.m n || !decide (r * r = shN d.m n))),.int .i64 0]):=by
 obtain ⟨f1,f2,f3,f4,f5⟩:=ZbR dd
 obtain ⟨ng,m,e⟩:=d
 simp only at *
 subst hs
 have hbm:=ZcM f1
 have hbp:=Zbg h0
 have hbs:=Ztv h0 (n:=n) (by omega)
 have hrk : k < blen r:=ZfV (k:=k) (r:=r) (M:=shN m n) (by
  have:=ZaW (n:=shN m n) (by intro hc; rw [hc,Zai] at hbs; omega)
  rw [← Nat.pow_add]
  exact Nat.le_trans (Nat.pow_le_pow_right (by decide) (by omega)) this) r2
 have b0:=Zcu J false z (Zas m) e
 rw [dd] at b0
 have a0:=Zjp J hk
 have l1:=ZfQ J (z:=z) f1
 obtain ⟨z1,h1⟩:=Zqm J (z:=z) (m:=m) (n:=n) f1 (by omega) (by omega)
 have mM : mayL (dl (shN m n)) = true:=Zal (by omega)
 obtain ⟨r',z2,h2,q1,q2⟩:=Zme J (z:=z1) (a:=shN m n) mM
 have hrr : r' = r:=Znq q1 q2 r1 r2
 subst hrr
 have hbr : blen r'≤blen (shN m n):=Zax (Nat.le_trans (Nat.le_mul_self r') r1)
 have mr : mayL (dl r') = true:=Zal (by omega)
 obtain ⟨z5,h4⟩:=Zkx J (n:=false) (z:=z2) (more:=shB m n || !decide (r' * r' = shN m n)) (q:=r') (k:=k) (s:=S) (e:=c) mr hS (by omega) (by omega)
 have c1 : ¬ ((dl m).length : Int) = 0:=fun hc => h0 (Zap.1 (by omega))
 refine ⟨z5,?_⟩
 rw [Zac G T J.C.ZmG]
 simp only [DyA,A3] at *
 have wa : IntKind.i64.wrap (2 * (k : Int)) = 2 * (k : Int):=Zad (by omega)
 have wb : IntKind.i64.wrap (2 * (k : Int) + 2) = 2 * (k : Int) + 2:=Zad (by omega)
 have wc : IntKind.i64.wrap (2 * (k : Int) + 2 - (blen m : Int)) = 2 * (k : Int) + 2 - (blen m : Int):=Zad (by omega)
 have wd : IntKind.i64.wrap (e - (2 * (k : Int) + 2 - (blen m : Int))) = e - (2 * (k : Int) + 2 - (blen m : Int)):=Zad (by omega)
 have we : IntKind.i64.wrap (e - n) = e - n:=Zad (by omega)
 have wt : IntKind.i64.wrap ((e - n).tdiv 2) = c:=by rw [hc,Int.mul_tdiv_cancel_left _ (by decide)]; exact Zad (by omega)
 have wx:=ZxP (e - (2 * (k : Int) + 2 - (blen m : Int)))
 have hpar : ((e - (2 * (k : Int) + 2 - (blen m : Int))) % 2 = 0∧n = 2 * (k : Int) + 2 - (blen m : Int)) ∨
   ((e - (2 * (k : Int) + 2 - (blen m : Int))) % 2 = 1∧IntKind.i64.wrap (2 * (k : Int) + 2 - (blen m : Int) + 1) = n):=by
  rcases Int.emod_two_eq (e - (2 * (k : Int) + 2 - (blen m : Int))) with hp | hp
  ·left; exact ⟨hp,by omega⟩
  ·right; refine ⟨hp,?_⟩; rw [Zad (by omega)]; omega
 clear hbs hrk hbr mr mM hS r1 r2 q1 q2 f1 f2 f3 f4 f5 dd hbm hbp hn
 generalize shB m n = o1 at *
 generalize decide (r' * r' = shN m n) = o2 at *
 generalize decide (r' % 2 ^ S = 0) = o at *
 generalize shN m n = M at *
 rcases hpar with ⟨hp,hn⟩ | ⟨hp,hn⟩
 ·rw [hp] at wx
  rw [hn] at h1 we wt
  cases o1 <;> cases o2 <;> (simp only [Bool.false_or,Bool.true_or,Bool.not_true,Bool.not_false,Bool.or_false,Bool.or_true] at h4 ⊢; repeat' (first|simp (maxSteps:=9^7) only [seval,exC,ZfC,b0,a0,c1,l1,wa,wb,wc,wd,we,wt,wx,h1,h2,h4]|simp (maxSteps:=9^7) (disch:=first|with_reducible assumption|omega) only [dxB]|(simp only [kdB];split)|(simp only [kvB];split)); try rfl)
 ·rw [hp] at wx
  cases o1 <;> cases o2 <;> (simp only [Bool.false_or,Bool.true_or,Bool.not_true,Bool.not_false,Bool.or_false,Bool.or_true] at h4 ⊢; repeat' (first|simp (maxSteps:=9^7) only [seval,exC,ZfC,b0,a0,c1,l1,wa,wb,wc,wd,we,wt,wx,hn,h1,h2,h4]|simp (maxSteps:=9^7) (disch:=first|with_reducible assumption|omega) only [dxB]|(simp only [kdB];split)|(simp only [kvB];split)); try rfl)
theorem ZyS (x : Int) : (x.tmod 2 = 0↔x % 2 = 0):=by
 constructor
 ·intro h; exact Int.emod_eq_zero_of_dvd (Int.dvd_of_tmod_eq_zero h)
 ·intro h; exact Int.tmod_eq_zero_of_dvd (Int.dvd_of_emod_eq_zero h)
set_option maxHeartbeats 2000000 in
theorem ZjB (J : Al G T g) {z : Bool} {d : Dy} {k S N r : Nat} {c : Int} (h0 : d.m≠0) (lb : blen d.m < 1048576) (hk0 : 0 < k) (hk : k < 8192) (he : -17179869184 < d.e∧d.e < 17179869184)
  (hN : (N : Int) = max 0 (2 * (k : Int) + 2 - blen d.m) + (d.e - max 0 (2 * (k : Int) + 2 - blen d.m)) % 2) (hc : d.e - N = 2 * c)
  (r1 : r * r≤d.m * 2 ^ N) (r2 : d.m * 2 ^ N < (r + 1) * (r + 1)) (hS : blen r = k + S) :
  ∃ z',run G T 44 [DyA z d,.int .i64 (k : Int)] = some (.tup [DyA z' (mkD false (r / 2 ^ S) (c + S)),.bool (!decide (r % 2 ^ S = 0) || !decide (r * r = d.m * 2 ^ N))]):=by
 obtain ⟨ng,m,e⟩:=d
 simp only at *
 have hbp:=Zbg h0
 have hbN:=Zam h0 N
 have hrk : k < blen r:=ZfV (k:=k) (r:=r) (M:=m * 2 ^ N) (by
  have:=ZaW (n:=m * 2 ^ N) (by intro hc; rw [hc,Zai] at hbN; omega)
  rw [← Nat.pow_add]
  exact Nat.le_trans (Nat.pow_le_pow_right (by decide) (by omega)) this) r2
 have hbr : blen r≤blen (m * 2 ^ N):=Zax (Nat.le_trans (Nat.le_mul_self r) r1)
 have d1:=Zaa m
 have d2:=Zaa (m * 2 ^ N)
 have d3:=Zaa r
 have l1:=ZdC (G:=G) J (z:=z) (a:=m) (by omega)
 obtain ⟨z1,h1⟩:=Zfm (G:=G) J (z:=z) (a:=m) (n:=N) (by omega) (by omega)
 obtain ⟨r',z2,h2,q1,q2⟩:=ZjA (G:=G) J (z:=z1) (a:=m * 2 ^ N) (by omega)
 have hrr : r' = r:=Znq q1 q2 r1 r2
 subst hrr
 obtain ⟨z4,h3⟩:=Zbf (G:=G) J (n:=false) (z:=z2) (a:=r') (e:=c) (by omega) (by omega)
 obtain ⟨z5,h4⟩:=Zyh (G:=G) J (n:=false) (z:=z4) (Q:=r') (k:=k) (S:=S) (e:=c) (by omega) hS (by omega) hk0 hk (by omega)
 refine ⟨z5,?_⟩
 rw [Zac G T J.C.ZjB]
 simp only [DyA,A3] at *
 have wa : IntKind.i64.wrap (2 * (k : Int)) = 2 * (k : Int):=Zad (by omega)
 have wb : IntKind.i64.wrap (2 * (k : Int) + 2) = 2 * (k : Int) + 2:=Zad (by omega)
 have wc : IntKind.i64.wrap (2 * (k : Int) + 2 - (blen m : Int)) = 2 * (k : Int) + 2 - (blen m : Int):=Zad (by omega)
 have we : IntKind.i64.wrap (e - (N : Int)) = e - N:=Zad (by omega)
 have wt : IntKind.i64.wrap ((e - (N : Int)).tdiv 2) = c:=by rw [hc,Int.mul_tdiv_cancel_left _ (by decide)]; exact Zad (by omega)
 have hM : ∃ P : Int,P = max 0 (2 * (k : Int) + 2 - (blen m : Int)):=⟨_,rfl⟩
 obtain ⟨P,hP⟩:=hM
 rw [← hP] at hN
 have wd : IntKind.i64.wrap (e - P) = e - P:=Zad (by omega)
 have wx:=ZyS (e - P)
 have hpar : ((e - P).tmod 2 = 0∧(N : Int) = P)∨(¬ (e - P).tmod 2 = 0∧IntKind.i64.wrap (P + 1) = N):=by
  rcases Int.emod_two_eq (e - P) with hp | hp
  ·left; exact ⟨wx.2 hp,by omega⟩
  ·right; refine ⟨fun h => ?_,?_⟩
   ·have:=wx.1 h; omega
   ·rw [Zad (by omega)]; omega
 have hPP : (2 * (k : Int) + 2 - (blen m : Int) < 0∧P = 0)∨(¬ 2 * (k : Int) + 2 - (blen m : Int) < 0∧P = 2 * (k : Int) + 2 - (blen m : Int)):=by omega
 clear wx hN hbp hbN hrk hbr d1 d2 d3 r1 r2 q1 q2 hS lb hP
 generalize decide (r' * r' = m * 2 ^ N) = o2 at *
 generalize decide (r' % 2 ^ S = 0) = o at *
 rcases hPP with ⟨c1,rfl⟩ | ⟨c1,hPe⟩
 ·rcases hpar with ⟨hp,hn⟩ | ⟨hp,hn⟩
  ·rw [hn] at h1 we wt
   cases o <;> cases o2 <;> (repeat' (first|simp (maxSteps:=9^7) only [seval,exC,ZbC,l1,c1,wa,wb,wc,wd,we,wt,hp,h1,h2,h3,h4]|simp (maxSteps:=9^7) (disch:=first|with_reducible assumption|omega) only [dxB]|(simp only [kdB];split)|(simp only [kvB];split)); all_goals rfl)
  ·have w0 : IntKind.i64.wrap (0 + 1) = 1:=rfl
   have w1 : IntKind.i64.wrap 1 = 1:=rfl
   have hN1 : N = 1:=by omega
   subst hN1
   rw [show ((1 : Nat) : Int) = 1 from rfl] at h1 we wt
   clear hn
   cases o <;> cases o2 <;> (repeat' (first|simp (maxSteps:=9^7) only [seval,exC,ZbC,l1,c1,wa,wb,wc,wd,we,wt,hp,w0,w1,h1,h2,h3,h4]|simp (maxSteps:=9^7) (disch:=first|with_reducible assumption|omega) only [dxB]|(simp only [kdB];split)|(simp only [kvB];split)); all_goals rfl)
 ·rw [hPe] at wd hpar
  rcases hpar with ⟨hp,hn⟩ | ⟨hp,hn⟩
  ·rw [hn] at h1 we wt
   cases o <;> cases o2 <;> (repeat' (first|simp (maxSteps:=9^7) only [seval,exC,ZbC,l1,c1,wa,wb,wc,wd,we,wt,hp,h1,h2,h3,h4]|simp (maxSteps:=9^7) (disch:=first|with_reducible assumption|omega) only [dxB]|(simp only [kdB];split)|(simp only [kvB];split)); all_goals rfl)
  ·cases o <;> cases o2 <;> (repeat' (first|simp (maxSteps:=9^7) only [seval,exC,ZbC,l1,c1,wa,wb,wc,wd,we,wt,hp,hn,h1,h2,h3,h4]|simp (maxSteps:=9^7) (disch:=first|with_reducible assumption|omega) only [dxB]|(simp only [kdB];split)|(simp only [kvB];split)); all_goals rfl)
def sW (F : Fm) (md : Int) (neg : Bool) (Q : Nat) (more : Bool) (E : Int) : Nat × Nat :=
 wordOf F md neg (rdN md neg Q more (F.eOf (E + blen Q) - E).toNat).1 (rdN md neg Q more (F.eOf (E + blen Q) - E).toNat).2 (F.eOf (E + blen Q)) (E + blen Q) (rdN md neg Q more (blen Q - F.fr - 1)).1
theorem ZoZ (F : Fm) (md : Int) (neg : Bool) {w : Nat} (more : Bool) (top : Int) (hw : blen w = 64) : partW F md neg w more top = sW F md neg w more (top - 64):=by
 unfold partW sW
 have h1 : top - 64 + (blen w : Int) = top:=by omega
 rw [h1,show F.eOf top - top + 64 = F.eOf top - (top - 64) by omega,show blen w - F.fr - 1 = 63 - F.fr by omega]
theorem ZjE (F : Fm) (md : Int) (neg : Bool) {Q j : Nat} (more : Bool) (E : Int) (h : F.fr + 2 + j≤blen Q) :
  sW F md neg (Q / 2 ^ j) (more || decide (Q % 2 ^ j≠0)) (E + j) = sW F md neg Q more E:=by
 unfold sW
 have hb : (blen (Q / 2 ^ j) : Int) = blen Q - j:=by rw [Zaj]; omega
 have hb' : blen (Q / 2 ^ j) = blen Q - j:=by omega
 have e1 : E + j + (blen (Q / 2 ^ j) : Int) = E + blen Q:=by omega
 have hE : E + (blen Q : Int) - F.fr - 1≤F.eOf (E + blen Q):=by unfold Fm.eOf; omega
 have r1:=Zni md neg Q more j (F.eOf (E + blen Q) - (E + j)).toNat (by omega)
 have r2:=Zni md neg Q more j (blen Q - j - F.fr - 1) (by omega)
 rw [show j + (F.eOf (E + blen Q) - (E + j)).toNat = (F.eOf (E + blen Q) - E).toNat by omega] at r1
 rw [show j + (blen Q - j - F.fr - 1) = blen Q - F.fr - 1 by omega] at r2
 rw [e1,hb',r1,r2]
theorem ZpY {M : Nat} (h : M≠0) (t : Nat) : headN (M * 2 ^ t) = headN M∧behindN (M * 2 ^ t) = behindN M:=by
 unfold headN behindN
 rw [Zam h]
 by_cases h1 : blen M≤64
 ·by_cases h2 : blen M + t≤64
  ·rw [if_pos h1,if_pos h2,if_pos h1,if_pos h2,Nat.mul_assoc,← Nat.pow_add,show t + (64 - (blen M + t)) = 64 - blen M by omega]
   exact ⟨rfl,rfl⟩
  ·rw [if_pos h1,if_neg h2,if_pos h1,if_neg h2]
   rw [ZhY (by omega),ZjW (by omega),show t - (blen M + t - 64) = 64 - blen M by omega]
   exact ⟨rfl,rfl⟩
 ·rw [if_neg h1,if_neg (by omega),if_neg h1,if_neg (by omega)]
  rw [Zgx (by omega),ZiM (by omega),show blen M + t - 64 - t = blen M - 64 by omega]
  have hp:=Nat.two_pow_pos t
  refine ⟨rfl,decide_eq_decide.2 ?_⟩
  constructor
  ·intro h3 h4; exact h3 (by rw [h4,Nat.zero_mul])
  ·intro h3 h4
   rcases Nat.mul_eq_zero.1 h4 with h5 | h5
   ·exact h3 h5
   ·omega
theorem ZBY (F : Fm) (md : Int) (neg : Bool) {M : Nat} (E : Int) (h : F.fr + 2≤blen M) : sW F md neg (headN M) (behindN M) (E + blen M - 64) = sW F md neg M false E:=by
 have hF:=Zak F
 unfold headN behindN
 by_cases h1 : blen M≤64
 ·rw [if_pos h1,if_pos h1]
  have hm : M≠0:=by rintro rfl; rw [Zai] at h; omega
  have:=ZjE F md neg (Q:=M * 2 ^ (64 - blen M)) (j:=64 - blen M) false (E + blen M - 64) (by rw [Zam hm]; omega)
  rw [Nat.mul_div_cancel _ (Nat.two_pow_pos _),Nat.mul_mod_left,show E + (blen M : Int) - 64 + ((64 - blen M : Nat) : Int) = E by omega] at this
  rw [← this]; rfl
 ·rw [if_neg h1,if_neg h1]
  have:=ZjE F md neg (Q:=M) (j:=blen M - 64) false E (by omega)
  rw [← this,Bool.false_or,show E + ((blen M - 64 : Nat) : Int) = E + blen M - 64 by omega]
theorem Zpi (F : Fm) (md : Int) (neg : Bool) {M : Nat} (E : Int) (h : F.fr + 2≤blen M) : rndW F md (mkD neg M E) = sW F md neg M false E:=by
 have hm : M≠0:=by rintro rfl; rw [Zai] at h; omega
 have t1:=(ZdW hm).1
 have hb:=Zaj M (tz M)
 have hz:=ZfW hm
 have hm' : M / 2 ^ tz M≠0:=by intro hc; rw [hc,Zai] at hb; omega
 have h1:=Ztc F md (d:=mkD neg M E) (by rw [Zaz hm]; exact hm')
 rw [← h1,Zaz hm]
 simp only
 obtain ⟨e1,e2⟩:=ZpY hm' (tz M)
 rw [← t1] at e1 e2
 rw [← e1,← e2,ZoZ _ _ _ _ _ (Zjr hm),show E + (tz M : Int) + (blen (M / 2 ^ tz M) : Int) - 64 = E + blen M - 64 by omega,ZBY F md neg E h]
theorem Zep (t j : Nat) : t * 2 ^ j * (t * 2 ^ j) = t * t * 2 ^ (2 * j):=by
 rw [Nat.mul_mul_mul_comm,← Nat.pow_add,show j + j = 2 * j by omega]
theorem Zxa {X r t j : Nat} (h1 : r * r≤X) (h2 : X < (r + 1) * (r + 1)) (h3 : t * t≤X / 2 ^ (2 * j)) (h4 : X / 2 ^ (2 * j) < (t + 1) * (t + 1)) :
  t = r / 2 ^ j∧((t * t = X / 2 ^ (2 * j)∧X % 2 ^ (2 * j) = 0)↔(r * r = X∧r % 2 ^ j = 0)):=by
 have hp:=Nat.two_pow_pos j
 have hq:=Nat.two_pow_pos (2 * j)
 have g1 : t * 2 ^ j * (t * 2 ^ j)≤X:=by
  rw [Zep]
  exact Nat.le_trans (Nat.mul_le_mul_right _ h3) (Nat.div_mul_le_self ..)
 have g2 : t * 2 ^ j≤r:=by
  rcases Nat.lt_or_ge r (t * 2 ^ j) with h | h
  ·have:=Nat.mul_le_mul (show r + 1≤t * 2 ^ j from h) (show r + 1≤t * 2 ^ j from h); omega
  ·exact h
 have g3 : r / 2 ^ j * (r / 2 ^ j)≤X / 2 ^ (2 * j):=by
  rw [Nat.le_div_iff_mul_le hq,← Zep]
  exact Nat.le_trans (Nat.mul_le_mul (Nat.div_mul_le_self ..) (Nat.div_mul_le_self ..)) h1
 have g4 : r / 2 ^ j≤t:=by
  rcases Nat.lt_or_ge t (r / 2 ^ j) with h | h
  ·have:=Nat.mul_le_mul (show t + 1≤r / 2 ^ j from h) (show t + 1≤r / 2 ^ j from h); omega
  ·exact h
 have g5 : t = r / 2 ^ j:=Nat.le_antisymm ((Nat.le_div_iff_mul_le hp).2 g2) g4
 refine ⟨g5,?_⟩
 have m1:=Nat.div_add_mod X (2 ^ (2 * j))
 have m2:=Nat.div_add_mod r (2 ^ j)
 constructor
 ·rintro ⟨a1,a2⟩
  have hX : t * 2 ^ j * (t * 2 ^ j) = X:=by
   rw [Zep,a1,Nat.mul_comm]; omega
  have hr : t * 2 ^ j = r:=by
   refine Znq (a:=X) (Nat.le_of_eq hX) ?_ h1 h2
   rw [← hX]; exact Nat.mul_lt_mul_of_lt_of_le (Nat.lt_succ_self _) (Nat.le_succ _) (by omega)
  refine ⟨by rw [← hr]; exact hX,?_⟩
  rw [← hr]; exact Nat.mul_mod_left ..
 ·rintro ⟨a1,a2⟩
  have hr : r = t * 2 ^ j:=by rw [g5,Nat.mul_comm]; omega
  have hX : X = t * t * 2 ^ (2 * j):=by rw [← a1,hr,Zep]
  refine ⟨?_,by rw [hX]; exact Nat.mul_mod_left ..⟩
  rw [hX,Nat.mul_div_cancel _ hq]
theorem ZCa (F : Fm) (md : Int) (neg : Bool) {X r t j : Nat} (E : Int) (h1 : r * r≤X) (h2 : X < (r + 1) * (r + 1)) (h3 : t * t≤X / 2 ^ (2 * j)) (h4 : X / 2 ^ (2 * j) < (t + 1) * (t + 1)) (h : F.fr + 2≤blen t) :
  sW F md neg t (!decide (X % 2 ^ (2 * j) = 0) || !decide (t * t = X / 2 ^ (2 * j))) (E + j) = sW F md neg r (!decide (r * r = X)) E:=by
 obtain ⟨e1,e2⟩:=Zxa h1 h2 h3 h4
 have hbl:=Zaj r j
 rw [← e1] at hbl
 have h5:=ZjE F md neg (Q:=r) (j:=j) (!decide (r * r = X)) E (by omega)
 rw [← e1] at h5
 rw [← h5]
 congr 1
 rw [Bool.eq_iff_iff]
 simp only [Bool.or_eq_true,Bool.not_eq_true',decide_eq_true_eq,decide_eq_false_iff_not,ne_eq]
 by_cases h6 : t * t = X / 2 ^ (2 * j) <;> by_cases h7 : X % 2 ^ (2 * j) = 0 <;> by_cases h8 : r * r = X <;> by_cases h9 : r % 2 ^ j = 0 <;> simp_all
def quoW (F : Fm) (md : Int) (a b : Dy) : Nat × Nat :=
 sW F md (a.n != b.n) (a.m * 2 ^ quoN 64 a.m b.m / b.m) (!decide (a.m * 2 ^ quoN 64 a.m b.m % b.m = 0)) (a.e - b.e - (quoN 64 a.m b.m : Nat))
theorem ZFe (o1 o2 : Bool) : (!o1 || !o2) = (!o2 || !o1):=by cases o1 <;> cases o2 <;> rfl
theorem head64 {w : Nat} (h : blen w = 64) : headN w = w∧behindN w = false:=by
 unfold headN behindN
 rw [if_pos (by omega),if_pos (by omega),h]
 exact ⟨Nat.mul_one w,rfl⟩
theorem Zwx {n : Bool} {w : Nat} {e : Int} (h : blen w = 64) : headN (mkD n w e).m = w∧behindN (mkD n w e).m = false∧(mkD n w e).e + (blen (mkD n w e).m : Int) = e + 64∧(mkD n w e).m≠0∧(mkD n w e).n = n:=by
 have h0 : w≠0:=by rintro rfl; rw [Zai] at h; omega
 have t1:=(ZdW h0).1
 have hb:=Zaj w (tz w)
 have hz:=ZfW h0
 have hm' : w / 2 ^ tz w≠0:=by intro hc; rw [hc,Zai] at hb; omega
 obtain ⟨e1,e2⟩:=ZpY hm' (tz w)
 rw [← t1] at e1 e2
 rw [Zaz h0]
 simp only
 rw [← e1,← e2]
 exact ⟨(head64 h).1,(head64 h).2,by omega,hm',by trivial⟩
theorem ZvQ (F : Fm) : F.fr + 2≤54:=by cases F <;> decide
theorem Znr (J : Al G T g) (F : Fm) {m : Int} (hm : 1≤m∧m≤5) {z y : Bool} {a b : Dy} (da : mayD a.n (dl a.m) a.e = true) (db : mayD b.n (dl b.m) b.e = true)
  (ha : a.m≠0) (hb : b.m≠0) (hw : quoN 64 a.m b.m + blen a.m≤131072) :
  run G T 15 [.int .u8 F.u,.int .u8 m,DyA z a,DyA y b] = some (.tup [.int .u64 ((quoW F m a b).1 : Int),.int .u8 ((quoW F m a b).2 : Int),.int .i64 0]):=by
 rw [Zac G T J.E.Znr]
 obtain ⟨f1,f2,f3,f4,f5⟩:=ZbR da
 obtain ⟨g1,g2,g3,g4,g5⟩:=ZbR db
 have o1:=ZrG J F hm (n:=a.n) (z:=z) (n':=b.n) (z':=y) (Zas a.m) (Zas b.m) (e:=a.e) (e':=b.e)
 rw [da,db,Bool.and_self,if_pos rfl] at o1
 have s1:=Zck J (n:=a.n) (z:=z) (Zas a.m) (e:=a.e)
 rw [Zfp da,if_neg ha] at s1
 have s2:=Zck J (n:=b.n) (z:=y) (Zas b.m) (e:=b.e)
 rw [Zfp db,if_neg hb] at s2
 have bound : ∀ {n : Bool} {m : Nat} {e : Int},mayD n (dl m) e = true→m≠0→mayD false (dl m) 0 = true:=by
  intro n m e hx hx0
  have h1 : ¬ (dl m).length = 0:=by rw [Zap]; exact hx0
  simp only [mayD] at hx ⊢
  rw [if_neg h1] at hx ⊢
  simp only [Bool.and_eq_true,decide_eq_true_eq] at hx ⊢
  exact ⟨hx.1,hx.2.1,by omega⟩
 have hqb:=ZkL (k:=64) ha hb
 obtain ⟨S,hS⟩ : ∃ S,blen (a.m * 2 ^ quoN 64 a.m b.m / b.m) = 64 + S:=⟨blen (a.m * 2 ^ quoN 64 a.m b.m / b.m) - 64,by omega⟩
 obtain ⟨zq,q1⟩:=Zoy J (z:=z) (y:=y) (a:=⟨false,a.m,0⟩) (b:=⟨false,b.m,0⟩) (k:=64) (S:=S) (bound da ha) (bound db hb) ha hb (by omega) hw ⟨by simp,by simp⟩ ⟨by simp,by simp⟩ hS
 simp only at q1
 rw [show ((64 : Nat) : Int) = 64 from rfl] at q1
 have bS:=Zaj (a.m * 2 ^ quoN 64 a.m b.m / b.m) S
 have hb64 : blen (a.m * 2 ^ quoN 64 a.m b.m / b.m / 2 ^ S) = 64:=by omega
 have hq1:=quoN
 have hN : quoN 64 a.m b.m = 64 + 1 + blen b.m - blen a.m:=rfl
 have bS2:=Zax (Nat.div_le_self (a.m * 2 ^ quoN 64 a.m b.m) b.m)
 rw [Zam ha] at bS2
 have bbm:=ZcM g1
 have W : quoW F m a b = partW F m (a.n != b.n) (a.m * 2 ^ quoN 64 a.m b.m / b.m / 2 ^ S) (!decide (a.m * 2 ^ quoN 64 a.m b.m / b.m % 2 ^ S = 0) || !decide (a.m * 2 ^ quoN 64 a.m b.m % b.m = 0))
   ((0 : Int) - 0 - (quoN 64 a.m b.m : Nat) + S + 64 + (a.e - b.e)):=by
  rw [ZoZ _ _ _ _ _ hb64]
  have:=ZjE F m (a.n != b.n) (Q:=a.m * 2 ^ quoN 64 a.m b.m / b.m) (j:=S) (!decide (a.m * 2 ^ quoN 64 a.m b.m % b.m = 0)) (a.e - b.e - (quoN 64 a.m b.m : Nat)) (by have:=ZvQ F; omega)
  unfold quoW
  simp only [ne_eq,decide_not] at this
  rw [← this,ZFe,show (0 : Int) - 0 - (quoN 64 a.m b.m : Nat) + S + 64 + (a.e - b.e) - 64 = a.e - b.e - (quoN 64 a.m b.m : Nat) + S by omega]
 rw [W]
 clear W bS
 generalize a.m * 2 ^ quoN 64 a.m b.m / b.m % 2 ^ S = R1 at *
 generalize a.m * 2 ^ quoN 64 a.m b.m % b.m = R2 at *
 generalize a.m * 2 ^ quoN 64 a.m b.m / b.m / 2 ^ S = Q at *
 generalize a.m * 2 ^ quoN 64 a.m b.m / b.m = Q0 at *
 have hX : -2000000 < (0 : Int) - 0 - (quoN 64 a.m b.m : Nat) + S∧(0 : Int) - 0 - (quoN 64 a.m b.m : Nat) + S < 2000000:=by omega
 generalize (0 : Int) - 0 - (quoN 64 a.m b.m : Nat) + S = X at *
 obtain ⟨k1,k2,k3,k4,k5⟩:=Zwx (n:=false != false) (e:=X) hb64
 have hd:=Zaz (n:=false != false) (m:=Q) (by rintro rfl; rw [Zai] at hb64; omega) X
 have hQ0 : Q≠0:=by rintro rfl; rw [Zai] at hb64; omega
 have tq:=ZfW hQ0
 have hmm : mayL (dl (mkD (false != false) Q X).m) = true:=Zal (by
  have:=Zaj Q (tz Q)
  rw [hd]; simp only; omega)
 have p1:=ZeJ J (z:=zq) (d:=mkD (false != false) Q X) hmm k4 (by rw [hd]; simp only; omega)
 rw [k1,k2,k3] at p1
 have w1:=Zlz J F hm (neg:=a.n != b.n) (more:=!decide (R1 = 0) || !decide (R2 = 0)) (w:=Q) (top:=X + 64 + (a.e - b.e)) hb64 (by omega)
 have wa : IntKind.i64.wrap (a.e - b.e) = a.e - b.e:=Zad (by omega)
 have wb : IntKind.i64.wrap (X + 64 + (a.e - b.e)) = X + 64 + (a.e - b.e):=Zad (by omega)
 clear k1 k2 k3 k4 k5 hd tq hmm hb64 hw hN hqb hS bS2 bbm f1 f2 f3 f4 f5 g1 g2 g3 g4 g5 da db bound hX hq1
 obtain ⟨na,ma,ea⟩:=a
 obtain ⟨nb,mb,eb⟩:=b
 simp only at *
 have hne : (na != nb) = !decide (na = nb):=by cases na <;> cases nb <;> rfl
 rw [hne] at w1 ⊢
 have c1 : ¬ (if na = true then (-1 : Int) else 1) = 0:=by split <;> decide
 have c2 : ¬ (if nb = true then (-1 : Int) else 1) = 0:=by split <;> decide
 generalize (if na = true then (-1 : Int) else 1) = sa at *
 generalize (if nb = true then (-1 : Int) else 1) = sb at *
 generalize (!decide (R1 = 0) || !decide (R2 = 0)) = lost at *
 simp only [DyA,A3,fmA,partA] at *
 cases lost <;> (
  repeat' (first|simp (maxSteps:=9^7) only [seval,exC,ZhS,o1,s1,s2,c1,c2,q1,p1,wa,wb,w1]|simp (maxSteps:=9^7) (disch:=first|with_reducible assumption|omega) only [dxB]|(simp only [kdB];split)|(simp only [kvB];split))
  all_goals try rfl)
theorem ZvZ : ∀ X : Nat,∃ r,r * r≤X∧X < (r + 1) * (r + 1):=by
 intro X
 induction X with
 | zero => exact ⟨0,by decide,by decide⟩
 | succ X ih =>
  obtain ⟨r,h1,h2⟩:=ih
  by_cases h : X + 1 < (r + 1) * (r + 1)
  ·exact ⟨r,by omega,h⟩
  ·refine ⟨r + 1,by omega,?_⟩
   have : (r + 1) * (r + 1) < (r + 1 + 1) * (r + 1 + 1):=Nat.mul_lt_mul_of_lt_of_le (Nat.lt_succ_self _) (Nat.le_succ _) (by omega)
   omega
noncomputable def isq (X : Nat) : Nat:=Classical.choose (ZvZ X)
theorem Zic (X : Nat) : isq X * isq X≤X∧X < (isq X + 1) * (isq X + 1):=Classical.choose_spec (ZvZ X)
def rootP (e : Int) : Nat:=130 + (e % 2).toNat
noncomputable def rootW (F : Fm) (md : Int) (d : Dy) : Nat × Nat :=
 sW F md false (isq (d.m * 2 ^ rootP d.e)) (!decide (isq (d.m * 2 ^ rootP d.e) * isq (d.m * 2 ^ rootP d.e) = d.m * 2 ^ rootP d.e)) ((d.e - (rootP d.e : Nat)) / 2)
theorem ZCf {m P : Nat} {n : Int} (h : n≤P) : shN m n = m * 2 ^ P / 2 ^ ((P : Int) - n).toNat∧shB m n = !decide (m * 2 ^ P % 2 ^ ((P : Int) - n).toNat = 0):=by
 unfold shN shB
 by_cases h0 : 0≤n
 ·rw [if_pos h0,if_pos h0,ZhY (by omega),ZjW (by omega),show P - ((P : Int) - n).toNat = n.toNat by omega]
  exact ⟨rfl,rfl⟩
 ·rw [if_neg h0,if_neg h0,Zgx (by omega),ZiM (by omega),show ((P : Int) - n).toNat - P = (-n).toNat by omega]
  have hp:=Nat.two_pow_pos P
  refine ⟨rfl,?_⟩
  congr 1
  refine decide_eq_decide.2 ?_
  constructor
  ·intro h1; rw [h1,Nat.zero_mul]
  ·intro h1
   rcases Nat.mul_eq_zero.1 h1 with h2 | h2
   ·exact h2
   ·omega
theorem ZyB (F : Fm) (md : Int) {m t : Nat} {e n c : Int} (h0 : n≤rootP e) (hc : e - n = 2 * c) (h1 : t * t≤shN m n) (h2 : shN m n < (t + 1) * (t + 1)) (hb : F.fr + 2≤blen t) (s : Bool) :
  sW F md false t (shB m n || !decide (t * t = shN m n)) c = rootW F md ⟨s,m,e⟩:=by
 have hP : rootP e = 130 + (e % 2).toNat:=rfl
 obtain ⟨e1,e2⟩:=ZCf (m:=m) h0
 obtain ⟨r1,r2⟩:=Zic (m * 2 ^ rootP e)
 have hj : ((rootP e : Nat) - n).toNat = 2 * (((rootP e : Nat) - n).toNat / 2):=by omega
 rw [hj] at e1 e2
 have h3:=ZCa F md false (X:=m * 2 ^ rootP e) (r:=isq (m * 2 ^ rootP e)) (t:=t) (j:=((rootP e : Nat) - n).toNat / 2) ((e - (rootP e : Nat)) / 2) r1 r2 (by rw [← e1]; exact h1) (by rw [← e1]; exact h2) hb
 unfold rootW
 simp only
 rw [← h3,e2,e1,show (e - (rootP e : Nat)) / 2 + ((((rootP e : Nat) - n).toNat / 2 : Nat) : Int) = c by omega]
theorem ZjD (J : Al G T g) (F : Fm) {m : Int} (hm : 1≤m∧m≤5) {z : Bool} {d : Dy} (dd : mayD d.n (dl d.m) d.e = true) (h0 : d.m≠0) (hs : d.n = false) :
  run G T 18 [.int .u8 F.u,.int .u8 m,DyA z d] = some (.tup [.int .u64 ((rootW F m d).1 : Int),.int .u8 ((rootW F m d).2 : Int),.int .i64 0]):=by
 rw [Zac G T J.E.ZjD]
 obtain ⟨f1,f2,f3,f4,f5⟩:=ZbR dd
 have o1:=Zkd J F hm (n:=d.n) (z:=z) (Zas d.m) (e:=d.e)
 rw [dd,if_pos rfl] at o1
 have s1:=Zck J (n:=d.n) (z:=z) (Zas d.m) (e:=d.e)
 rw [Zfp dd,if_neg h0,hs,if_neg (by decide)] at s1
 have hbm:=ZcM f1
 have hbp:=Zbg h0
 obtain ⟨n,hn⟩ : ∃ n : Int,n = 2 * ((64 : Nat) : Int) + 2 - blen d.m + (d.e - (2 * ((64 : Nat) : Int) + 2 - blen d.m)) % 2:=⟨_,rfl⟩
 have hP : rootP d.e = 130 + (d.e % 2).toNat:=rfl
 obtain ⟨c,hc⟩ : ∃ c : Int,d.e - n = 2 * c:=⟨(d.e - n) / 2,by omega⟩
 have hnP : n≤rootP d.e:=by omega
 have hbs:=Ztv h0 (n:=n) (by omega)
 obtain ⟨r,r1,r2⟩:=ZvZ (shN d.m n)
 have hrk : 64 < blen r:=ZfV (k:=64) (r:=r) (M:=shN d.m n) (by
  have:=ZaW (n:=shN d.m n) (by intro hc; rw [hc,Zai] at hbs; omega)
  rw [← Nat.pow_add]
  exact Nat.le_trans (Nat.pow_le_pow_right (by decide) (by omega)) this) r2
 obtain ⟨S,hS⟩ : ∃ S,blen r = 64 + S:=⟨blen r - 64,by omega⟩
 obtain ⟨zq,q1⟩:=ZmG J (z:=z) (d:=d) (k:=64) (S:=S) (n:=n) (c:=c) (r:=r) dd h0 hs (by omega) hn hc r1 r2 hS
 rw [show ((64 : Nat) : Int) = 64 from rfl] at q1
 have bS:=Zaj r S
 have hb64 : blen (r / 2 ^ S) = 64:=by omega
 have hbr : blen r≤blen (shN d.m n):=Zax (Nat.le_trans (Nat.le_mul_self r) r1)
 have hF:=ZvQ F
 have W : rootW F m d = partW F m false (r / 2 ^ S) (!decide (r % 2 ^ S = 0) || (shB d.m n || !decide (r * r = shN d.m n))) (c + S + 64):=by
  rw [ZoZ _ _ _ _ _ hb64]
  have h1:=ZyB F m (m:=d.m) (t:=r) (e:=d.e) (n:=n) (c:=c) hnP hc r1 r2 (by omega) d.n
  have h2:=ZjE F m false (Q:=r) (j:=S) (shB d.m n || !decide (r * r = shN d.m n)) c (by omega)
  simp only [ne_eq,decide_not] at h2
  rw [show rootW F m d = rootW F m ⟨d.n,d.m,d.e⟩ from rfl,← h1,← h2,Bool.or_comm,show c + (S : Int) + 64 - 64 = c + S by omega]
 rw [W]
 clear W bS hrk
 have hX : -10000000 < c + (S : Int)∧c + (S : Int) < 10000000:=by omega
 clear hnP hP hc hn hbs hbr r1 r2 hS hF
 generalize (!decide (r % 2 ^ S = 0) || (shB d.m n || !decide (r * r = shN d.m n))) = lost at *
 generalize c + (S : Int) = X at *
 generalize r / 2 ^ S = Q at *
 have hQ0 : Q≠0:=by rintro rfl; rw [Zai] at hb64; omega
 obtain ⟨k1,k2,k3,k4,k5⟩:=Zwx (n:=false) (e:=X) hb64
 have hd:=Zaz (n:=false) (m:=Q) hQ0 X
 have tq:=ZfW hQ0
 have hmm : mayL (dl (mkD false Q X).m) = true:=Zal (by
  have:=Zaj Q (tz Q)
  rw [hd]; simp only; omega)
 have p1:=ZeJ J (z:=zq) (d:=mkD false Q X) hmm k4 (by rw [hd]; simp only; omega)
 rw [k1,k2,k3] at p1
 have w1:=Zlz J F hm (neg:=false) (more:=lost) (w:=Q) (top:=X + 64) hb64 (by omega)
 clear k1 k2 k3 k4 k5 hd tq hmm hb64 f1 f2 f3 f4 f5 dd hX hQ0 hbm hbp
 obtain ⟨ng,mm,e⟩:=d
 simp only at *
 subst hs
 simp only [DyA,A3,fmA,partA] at *
 cases lost <;> (
  repeat' (first|simp (maxSteps:=9^7) only [seval,exC,ZeC,o1,s1,q1,p1,w1]|simp (maxSteps:=9^7) (disch:=first|with_reducible assumption|omega) only [dxB]|(simp only [kdB];split)|(simp only [kvB];split))
  all_goals try rfl)
theorem Zns (J : Al G T g) (F : Fm) {m : Int} (hm : 1≤m∧m≤5) {z : Bool} {d : Dy} (dd : mayD d.n (dl d.m) d.e = true) (h0 : d.m = 0) :
  run G T 18 [.int .u8 F.u,.int .u8 m,DyA z d] = some (.tup [.int .u64 0,.int .u8 0,.int .i64 0]):=by
 rw [Zac G T J.E.ZjD]
 have o1:=Zkd J F hm (n:=d.n) (z:=z) (Zas d.m) (e:=d.e)
 rw [dd,if_pos rfl] at o1
 have s1:=Zck J (n:=d.n) (z:=z) (Zas d.m) (e:=d.e)
 rw [Zfp dd,if_pos h0] at s1
 have hn : d.n = false:=((ZbR dd).2.1 (Zap.2 h0)).1
 simp only [DyA,A3,fmA,hn] at *
 repeat' (first|simp (maxSteps:=9^7) only [seval,exC,ZeC,o1,s1]|simp (maxSteps:=9^7) (disch:=first|with_reducible assumption|omega) only [dxB]|(simp only [kdB];split)|(simp only [kvB];split))
 all_goals try rfl
def cT (a b : List Nat) (k i : Nat) : Nat:=if i≤k then dg a i * dg b (k - i) else 0
def cS (a b : List Nat) (k : Nat) : Nat→Nat
 | 0 => 0
 | i + 1 => cS a b k i + cT a b k i
def cV (a b : List Nat) : Nat→Nat
 | 0 => 0
 | N + 1 => cV a b N + 4294967296 ^ N * cS a b N a.length
theorem ZEQ (x : Nat) (a : List Nat) : dg (x :: a) 0 = x:=by rw [ZeM (by simp)]; rfl
theorem ZER (x : Nat) (a : List Nat) (i : Nat) : dg (x :: a) (i + 1) = dg a i:=rfl
theorem Zvs (x : Nat) (a b : List Nat) (k : Nat) : ∀ i,cS (x :: a) b k (i + 1) = x * dg b k + (if k = 0 then 0 else cS a b (k - 1) i)
 | 0 => by
  simp only [cS,cT,ZEQ,Nat.sub_zero,Nat.zero_le,if_true,Nat.zero_add]
  split <;> rfl
 | i + 1 => by
  rw [cS,Zvs x a b k i,cT,ZER]
  by_cases h0 : k = 0
  ·rw [if_pos h0,if_pos h0,if_neg (by omega)]
  ·rw [if_neg h0,if_neg h0,cS,cT]
   by_cases h1 : i + 1≤k
   ·rw [if_pos h1,if_pos (by omega),show k - 1 - i = k - (i + 1) by omega,Nat.add_assoc]
   ·rw [if_neg h1,if_neg (by omega)]; rfl
theorem Zvt (x : Nat) (a b : List Nat) : ∀ N,cV (x :: a) b N = x * val (b.take N) + (if N = 0 then 0 else 4294967296 * cV a b (N - 1))
 | 0 => by simp [cV,val]
 | N + 1 => by
  rw [cV,Zvt x a b N,List.length_cons,Zvs,Zab,if_neg (show ¬ N + 1 = 0 by omega),Nat.add_sub_cancel]
  by_cases h0 : N = 0
  ·subst h0
   rw [if_pos rfl,if_pos rfl]; simp [cV,val]
  ·obtain ⟨M,rfl⟩ : ∃ M,N = M + 1:=⟨N - 1,by omega⟩
   rw [if_neg (show ¬ M + 1 = 0 by omega),if_neg (show ¬ M + 1 = 0 by omega),Nat.add_sub_cancel,cV]
   simp only [Nat.mul_add,Nat.pow_succ]
   generalize cV a b M = V
   generalize cS a b M a.length = S
   generalize val (b.take (M + 1)) = U
   generalize dg b (M + 1) = d
   generalize 4294967296 ^ M = p
   rw [Nat.mul_left_comm (p * 4294967296) x d,show p * 4294967296 * S = 4294967296 * (p * S) by rw [Nat.mul_comm p,Nat.mul_assoc]]
   omega
theorem Zzo (b : List Nat) : ∀ N,cV [] b N = 0
 | 0 => rfl
 | N + 1 => by rw [cV,Zzo b N,List.length_nil,cS,Nat.mul_zero]
theorem ZCL (b : List Nat) : ∀ (a : List Nat) (N : Nat),a.length + b.length≤N→cV a b N = val a * val b
 | [],N,_ => by rw [Zpz,Nat.zero_mul,Zzo]
 | x :: a,N,h => by
  rw [List.length_cons] at h
  rw [Zvt,List.take_of_length_le (by omega),if_neg (by omega),ZCL b a (N - 1) (by omega),Zaw,Nat.add_mul,Nat.mul_assoc]
theorem Zzm {a b : List Nat} {k : Nat} : ∀ {i : Nat},i + b.length≤k + 1→cS a b k i = 0
 | 0,_ => rfl
 | i + 1,h => by
  rw [cS,Zzm (by omega),cT]
  split
  ·rw [Zit (l:=b) (by omega),Nat.mul_zero]
  ·rfl
theorem Zzn {a b : List Nat} {k : Nat} : ∀ j,cS a b k (k + 1 + j) = cS a b k (k + 1)
 | 0 => rfl
 | j + 1 => by rw [← Nat.add_assoc,cS,Zzn j,cT,if_neg (by omega)]; rfl
theorem ZCK (a b : List Nat) (k n : Nat) : cS a b k (min (k + 1) n) = cS a b k n:=by
 rcases Nat.lt_or_ge n (k + 1) with h | h
 ·rw [Nat.min_eq_right (by omega)]
 ·rw [Nat.min_eq_left h]
  have:=Zzn (a:=a) (b:=b) (k:=k) (n - (k + 1))
  rw [show k + 1 + (n - (k + 1)) = n by omega] at this
  exact this.symm
theorem ZEO {a b : List Nat} (ha : Dg a) (hb : Dg b) (k i : Nat) : cT a b k i < 18446744073709551616:=by
 unfold cT; split
 ·have:=Zwq (ha.dg i) (hb.dg (k - i)) (show 0 < 4294967296 by decide) (show 0 < 4294967296 by decide); omega
 ·decide
theorem ZBg {a b : List Nat} (ha : Dg a) (hb : Dg b) (k : Nat) : ∀ i,cS a b k i≤i * 18446744073709551616
 | 0 => Nat.zero_le _
 | i + 1 => by
  have:=ZEO ha hb k i
  have:=ZBg ha hb k i
  rw [cS]; omega
theorem ZBh {V A L p k S : Nat} (h : L + p * A = V) : L + p * ((A + S) % 4294967296) + p * 4294967296 * ((A + S) / 4294967296) = V + p * S:=by
 rw [Nat.mul_assoc,Nat.add_assoc,← Nat.mul_add,Nat.mod_add_div,Nat.mul_add]; omega
theorem ZDT {a h : Nat} (ha : a < 4294967296) : orI .u64 (a : Int) ((h : Int) * 4294967296 % 18446744073709551616) = ((a + h % 4294967296 * 4294967296 : Nat) : Int):=by
 have e : (h : Int) * 4294967296 % 18446744073709551616 = ((h % 4294967296 * 4294967296 : Nat) : Int):=by omega
 rw [e,or64 (by omega) (by omega),show (4294967296 : Nat) = 2 ^ 32 from rfl,ZkI (show a < 2 ^ 32 from ha)]
theorem Zmt {a b : List Nat} {z y : Bool} {k A : Nat} {v : AV} (ha : Dg a) (hb : Dg b) (hs : a.length < 1073741824) (hk : k < 2147483648) (hA : A < 1298074214633706907132624082305024) : ∀ (m i : Nat) (h : Heap) (low high : Nat),
  m + i = min (k + 1) a.length→k < b.length + i→low < 18446744073709551616→low + 18446744073709551616 * high = A + cS a b k i →
  Post (evL G T Zef [(0,D z a),(1,D y b),(5,v),(6,.int .u64 (low : Int)),(7,.int .u64 (high : Int)),(8,.int .i64 (k : Int)),(10,.int .i64 (i : Int))] h) fun r =>
   ∃ e low' high',r = (.exit 2,(0,D z a) :: (1,D y b) :: (5,v) :: (6,.int .u64 ((low' : Nat) : Int)) :: (7,.int .u64 ((high' : Nat) : Int)) :: (8,.int .i64 (k : Int)) :: e,h)∧low' < 18446744073709551616∧low' + 18446744073709551616 * high' = A + cS a b k a.length
 | 0,i,h,low,high,hm,hi,hl,he => by
  rw [Zae G T (c:=Zef) rfl]
  have hend:=ZCK a b k a.length
  rw [show min (k + 1) a.length = i by omega] at hend
  rw [hend] at he
  by_cases h1 : (i : Int)≤(k : Int)
  ·have h2 : ¬ (i : Int) < (a.length : Int):=by omega
   repeat (first | (simp (maxSteps:=9^7) only [seval,evB,ZcC,h1,h2]) | (simp (disch:=omega) only [dsB]))
   exact Post.some ⟨_,_,_,rfl,hl,he⟩
  ·repeat (first | (simp (maxSteps:=9^7) only [seval,evB,ZcC,h1]) | (simp (disch:=omega) only [dsB]))
   exact Post.some ⟨_,_,_,rfl,hl,he⟩
 | m + 1,i,h,low,high,hm,hi,hl,he => by
  rw [Zae G T (c:=Zef) rfl]
  have h1 : (i : Int)≤(k : Int):=by omega
  have h2 : (i : Int) < (a.length : Int):=by omega
  have e7 : (i : Int) + 1 = ((i + 1 : Nat) : Int):=by omega
  have e8 : (k : Int) - (i : Int) = ((k - i : Nat) : Int):=by omega
  have hx:=ha.dg i
  have hy:=hb.dg (k - i)
  have hki : k - i < b.length:=by omega
  have w1 : (dg a i : Int) % 18446744073709551616 = dg a i:=by omega
  have w2 : (dg b (k - i) : Int) % 18446744073709551616 = dg b (k - i):=by omega
  have hM:=Zwq hx hy (show 0 < 4294967296 by decide) (show 0 < 4294967296 by decide)
  have hSb:=ZBg ha hb k i
  have w4 : (dg a i : Int) * (dg b (k - i) : Int) = ((dg a i * dg b (k - i) : Nat) : Int):=by rw [Int.natCast_mul]
  have hcs : cS a b k (i + 1) = cS a b k i + dg a i * dg b (k - i):=by rw [cS,cT,if_pos (by omega)]
  generalize dg a i * dg b (k - i) = p at *
  have w5 : (p : Int) % 18446744073709551616 = p:=by omega
  by_cases hc : low + p < 18446744073709551616
  ·have w6 : ((low : Int) + (p : Int)) % 18446744073709551616 = ((low + p : Nat) : Int):=by omega
   have w7 : ¬ ((low + p : Nat) : Int) < (p : Int):=by omega
   repeat (first | (simp (maxSteps:=9^7) only [seval,evB,ZcC,h1,h2,e7,e8,w1,w2,w4,w5,w6,w7]) | (simp (disch:=omega) only [dsB]))
   exact Zmt ha hb hs hk hA m (i + 1) _ _ _ (by omega) (by omega) hc (by rw [hcs]; omega)
  ·have w6 : ((low : Int) + (p : Int)) % 18446744073709551616 = ((low + p - 18446744073709551616 : Nat) : Int):=by omega
   have w7 : ((low + p - 18446744073709551616 : Nat) : Int) < (p : Int):=by omega
   have w8 : ((high : Int) + 1) % 18446744073709551616 = ((high + 1 : Nat) : Int):=by omega
   repeat (first | (simp (maxSteps:=9^7) only [seval,evB,ZcC,h1,h2,e7,e8,w1,w2,w4,w5,w6,w7,w8]) | (simp (disch:=omega) only [dsB]))
   exact Zmt ha hb hs hk hA m (i + 1) _ _ _ (by omega) (by omega) (by omega) (by rw [hcs]; omega)
theorem Zmu {a b : List Nat} {z y : Bool} (ha : Dg a) (hb : Dg b) (hs : a.length < 1073741824) (ht : b.length < 1073741824) : ∀ (m k : Nat) (h : Heap) (v : AV) (l : List Nat) (low high : Nat),
  m + k = a.length + b.length→Bld h v l→Dg l→l.length = k→low < 18446744073709551616→low + 18446744073709551616 * high < 1298074214633706907132624082305024 →
  val l + 4294967296 ^ k * (low + 18446744073709551616 * high) = cV a b k →
  Post (evL G T Zeg [(0,D z a),(1,D y b),(5,v),(6,.int .u64 (low : Int)),(7,.int .u64 (high : Int)),(8,.int .i64 (k : Int))] h) fun r =>
   ∃ e h' v' l' c',r = (.exit 0,(0,D z a) :: (1,D y b) :: (5,v') :: e,h')∧Bld h' v' l'∧Dg l'∧l'.length = a.length + b.length∧val l' + 4294967296 ^ (a.length + b.length) * c' = val a * val b
 | 0,k,h,v,l,low,high,hm,B,hd,hl,hlow,hA,he => by
  rw [Zae G T (c:=Zeg) rfl]
  have e1 : (a.length : Int) + (b.length : Int) = ((a.length + b.length : Nat) : Int):=by omega
  have h1 : ¬ (k : Int) < ((a.length + b.length : Nat) : Int):=by omega
  repeat (first | (simp (maxSteps:=9^7) only [seval,evB,Zee,e1,h1]) | (simp (disch:=omega) only [dsB]))
  rw [show k = a.length + b.length by omega,ZCL b a _ (Nat.le_refl _)] at he
  exact Post.some ⟨_,_,_,_,_,rfl,B,hd,by omega,he⟩
 | m + 1,k,h,v,l,low,high,hm,B,hd,hl,hlow,hA,he => by
  rw [Zae G T (c:=Zeg) rfl]
  have e1 : (a.length : Int) + (b.length : Int) = ((a.length + b.length : Nat) : Int):=by omega
  have h1 : (k : Int) < ((a.length + b.length : Nat) : Int):=by omega
  have e7 : (k : Int) + 1 = ((k + 1 : Nat) : Int):=by omega
  obtain ⟨i0,hi0⟩ : ∃ i0,i0 = k + 1 - b.length:=⟨_,rfl⟩
  have hlow0 : cS a b k i0 = 0:=by
   by_cases q : b.length≤k + 1
   ·exact Zzm (by omega)
   ·have : i0 = 0:=by omega
    rw [this]; rfl
  obtain ⟨_,hr,e,low',high',rfl,hlow',he'⟩:=Zmt (G:=G) (T:=T) (z:=z) (y:=y) (v:=v) (k:=k) (A:=low + 18446744073709551616 * high) ha hb hs (by omega) hA (min (k + 1) a.length - i0) i0 h low high (by omega) (by omega) hlow (by rw [hlow0]; rfl)
  have hSb:=ZBg ha hb k a.length
  have hstep:=ZBh (S:=cS a b k a.length) (k:=k) he
  rw [← he'] at hstep
  have hacc : low' + 18446744073709551616 * high' < 2596148429267413814265248164610048:=by omega
  have hbnd : (low' + 18446744073709551616 * high') / 4294967296 < 1298074214633706907132624082305024:=by omega
  have hlo : (low' + 18446744073709551616 * high') % 4294967296 = low' % 4294967296:=by omega
  have hnew : low' / 4294967296 + high' % 4294967296 * 4294967296 + 18446744073709551616 * (high' / 4294967296) = (low' + 18446744073709551616 * high') / 4294967296:=by omega
  rw [hlo,← hnew] at hstep
  rw [← hnew] at hbnd
  clear hlo hnew hSb
  have w2 : (low' : Int) % 4294967296 = ((low' % 4294967296 : Nat) : Int):=by omega
  have w3 : (low' : Int) / 4294967296 = ((low' / 4294967296 : Nat) : Int):=by omega
  have w4:=ZDT (a:=low' / 4294967296) (h:=high') (by omega)
  have w5 : (high' : Int) / 4294967296 = ((high' / 4294967296 : Nat) : Int):=by omega
  have hm1 : low' % 4294967296 < 4294967296:=Nat.mod_lt _ (by decide)
  have hq : low' / 4294967296 + high' % 4294967296 * 4294967296 < 18446744073709551616:=by omega
  have key : val (l ++ [low' % 4294967296]) + 4294967296 ^ (k + 1) * (low' / 4294967296 + high' % 4294967296 * 4294967296 + 18446744073709551616 * (high' / 4294967296)) = cV a b (k + 1):=by
   rw [ZcN,hl,Nat.pow_succ,cV]; exact hstep
  have B2:=(Zcy B (w:=((low' % 4294967296 : Nat) : Int)) (by omega) (by omega)).2
  rw [Int.toNat_natCast] at B2
  by_cases h2 : (b.length : Int)≤(k : Int)
  ·have e8 : (k : Int) - (b.length : Int) = ((k - b.length : Nat) : Int):=by omega
   have e9 : ((k - b.length : Nat) : Int) + 1 = (i0 : Int):=by omega
   repeat (first | (simp (maxSteps:=9^7) only [seval,evB,Zee,e1,h1,h2,e8,e9,hr,w2,w3,w4,w5,e7 ]) | (simp (disch:=omega) only [dsB,ZjI B]))
   exact Zmu ha hb hs ht m (k + 1) _ _ _ _ _ (by omega) B2 (ZbE hd hm1) (by rw [List.length_append,hl]; rfl) hq hbnd key
  ·have hz : i0 = 0:=by omega
   subst hz
   rw [cast0] at hr
   repeat (first | (simp (maxSteps:=9^7) only [seval,evB,Zee,e1,h1,h2,hr,w2,w3,w4,w5,e7 ]) | (simp (disch:=omega) only [dsB,ZjI B]))
   exact Zmu ha hb hs ht m (k + 1) _ _ _ _ _ (by omega) B2 (ZbE hd hm1) (by rw [List.length_append,hl]; rfl) hq hbnd key
theorem Znj (J : Al G T g) {z y : Bool} {a b : Nat} (hs : (dl a).length < 1073741824) (ht : (dl b).length < 1073741824) : ∃ z',run G T 158 [D z (dl a),D y (dl b)] = some (D z' (dl (a * b))):=by
 apply exP
 rw [Zac G T J.F.Znj]
 by_cases h1 : ((dl a).length : Int) = 0
 ·have ha : a = 0:=Zap.1 (by omega)
  repeat (first | (simp (maxSteps:=9^7) only [seval,evB,ZdM,h1]) | (simp (disch:=omega) only [dsB]))
  rw [ha,Nat.zero_mul,Zag]
  exact Post.some ⟨true,rfl⟩
 ·by_cases h2 : ((dl b).length : Int) = 0
  ·have hb : b = 0:=Zap.1 (by omega)
   repeat (first | (simp (maxSteps:=9^7) only [seval,evB,ZdM,h1,h2]) | (simp (disch:=omega) only [dsB]))
   rw [hb,Nat.mul_zero,Zag]
   exact Post.some ⟨true,rfl⟩
  ·obtain ⟨_,hr,e,h',v',l',c',rfl,B,hd,hl,hv⟩:=Zmu (G:=G) (T:=T) (z:=z) (y:=y) (Zas a) (Zas b) hs ht ((dl a).length + (dl b).length) 0 .nil .nil [] 0 0 rfl Zoi Dg.nil rfl (by decide) (by decide) rfl
   rw [cast0] at hr
   have hva:=ZdE (Zas a)
   have hvb:=ZdE (Zas b)
   have hc0 : val l' = a * b:=by
    rw [ZaI] at hva hvb hv
    rw [ZaI] at hv
    have hlt : a * b < 4294967296 ^ ((dl a).length + (dl b).length):=by
     rw [Nat.pow_add]; exact Nat.mul_lt_mul_of_lt_of_lt hva hvb
    rcases Nat.eq_zero_or_pos c' with hc | hc
    ·rw [hc,Nat.mul_zero,Nat.add_zero] at hv; exact hv
    ·have:=Nat.mul_le_mul_left (4294967296 ^ ((dl a).length + (dl b).length)) hc
     omega
   obtain ⟨z',hz⟩:=Zdd J (z:=isN v') hd (by omega)
   rw [hc0] at hz
   repeat (first | (simp (maxSteps:=9^7) only [seval,evB,ZdM,h1,h2,hr,B.snap,hz]) | (simp (disch:=omega) only [dsB]))
   exact Post.some ⟨_,rfl⟩
theorem ZiV (J : Al G T g) {z y : Bool} {a b : Dy} (ha : (dl a.m).length < 1073741824) (hb : (dl b.m).length < 1073741824) (ea : -274877906944 < a.e∧a.e < 274877906944) (eb : -274877906944 < b.e∧b.e < 274877906944) :
  ∃ z',run G T 154 [DyA z a,DyA y b] = some (DyA z' (mkD (a.n != b.n) (a.m * b.m) (a.e + b.e))):=by
 obtain ⟨n,m,e⟩:=a
 obtain ⟨n',m',e'⟩:=b
 simp only at *
 obtain ⟨z1,h1⟩:=Znj J (z:=z) (y:=y) (a:=m) (b:=m') ha hb
 have hl : (dl (m * m')).length < 17179869184:=by
  have h1:=ZbL.1 (Nat.le_refl (dl m).length)
  have h2:=ZbL.1 (Nat.le_refl (dl m').length)
  have h3 : (dl (m * m')).length≤(dl m).length + (dl m').length:=by
   rw [ZbL,Nat.pow_add]; exact Nat.mul_lt_mul_of_lt_of_lt h1 h2
  omega
 obtain ⟨z2,h2⟩:=Zbf J (n:=n != n') (z:=z1) (a:=m * m') (e:=e + e') hl (by omega)
 have w1 : IntKind.i64.wrap (e + e') = e + e':=Zad (by omega)
 have hne : (n != n') = !decide (n = n'):=by cases n <;> cases n' <;> rfl
 refine ⟨z2,?_⟩
 rw [hne] at h2 ⊢
 rw [Zac G T J.F.ZiV]
 simp only [DyA,A3] at *
 repeat' (first|simp (maxSteps:=9^7) only [seval,exC,ZhO,h1,w1,h2]|simp (maxSteps:=9^7) (disch:=first|with_reducible assumption|omega) only [dxB]|(simp only [kdB];split)|(simp only [kvB];split))
theorem ZpI {x y a b : Nat} (hx : blen x≤a) (hy : blen y≤b) : blen (x * y)≤a + b:=by
 refine Zaf.2 ?_
 rw [Nat.pow_add]
 exact Nat.mul_lt_mul_of_lt_of_lt (Zaf.1 hx) (Zaf.1 hy)
theorem ZoP {n : Bool} {m : Nat} {e : Int} (h : m % 2 = 1) : mkD n m e = ⟨n,m,e⟩:=by
 rw [Zaz (by omega),ZtW h,Nat.pow_zero,Nat.div_one]; simp
theorem Zjv {n : Bool} {m : Nat} {e : Int} (h : m % 2 = 1) (j : Nat) : mkD n (m * 2 ^ j) (e - j) = ⟨n,m,e⟩:=by
 have hp:=Nat.two_pow_pos j
 have h0 : m * 2 ^ j≠0:=by
  intro hc
  rcases Nat.mul_eq_zero.1 hc with h1 | h1 <;> omega
 rw [Zaz h0,ZeK h,Nat.mul_div_cancel _ hp,show e - (j : Int) + j = e by omega]
theorem Zrz {a b : Nat} (ha : a % 2 = 1) (hb : b % 2 = 1) : a * b % 2 = 1:=by rw [Nat.mul_mod,ha,hb]
theorem Zyy (F : Fm) (md : Int) {n n' : Bool} {m m' : Nat} {e e' : Int} (ho : m % 2 = 1) (ho' : m' % 2 = 1) : quoW F md (mkD (n != n') (m * m') (e + e')) ⟨n',m',e'⟩ = rndW F md ⟨n,m,e⟩:=by
 have hF:=ZvQ F
 rw [ZoP (Zrz ho ho')]
 unfold quoW
 simp only
 have hq:=ZkL (k:=64) (a:=m * m') (b:=m') (by have:=Zrz ho ho'; omega) (by omega)
 generalize quoN 64 (m * m') m' = N at *
 have e1 : m * m' * 2 ^ N = m * 2 ^ N * m':=by rw [Nat.mul_assoc,Nat.mul_assoc,Nat.mul_comm m']
 rw [e1,Nat.mul_div_cancel _ (by omega),Nat.mul_mod_left]
 rw [e1,Nat.mul_div_cancel _ (by omega)] at hq
 have h1:=Zpi F md n (M:=m * 2 ^ N) (e - N) (by omega)
 rw [Zjv ho] at h1
 rw [h1,show e + e' - e' - (N : Int) = e - N by omega]
 cases n <;> cases n' <;> rfl
end Go.Cv
