/-
 A part of the proof of the statements of this seat (texts that the law's own text leans on): no condition.
-/
import Derived.Test.YtnomgajekgfgaaaGreatDoorM17
set_option linter.unusedVariables false
set_option linter.unusedSimpArgs false
namespace Go.Cv
variable {G : Nat→Option (List AV)} {T : Tbl} {g : Nat}
theorem ZwY (e : Env) (h : Heap) : evL G T ZeV e h = kS G T (evL G T ZeU (keepE [0,1,5] e) h) ZeV:=Zae G T rfl e h
theorem ZlF {z y : Bool} {l : List (Nat × Nat)} {h : Heap} (hl : l.length≤4611686018427387904) : ∀ (m i : Nat),i + m = l.length →
  evL G T ZeV [(0,ZL z l),(1,ZL y l),(5,.int .i64 (i : Int))] h =
   some (.exit 0,[(0,ZL z l),(1,ZL y l),(5,.int .i64 (l.length : Int)),(14,.bool false)],h)
 | 0,i,hi => by
  have he : i = l.length:=by omega
  subst he
  have hn : ¬ (l.length : Int) < (l.length : Int):=by omega
  rw [ZwY]
  repeat' (first | simp only [seval,exC,ZeU,ZB,hn] | simp (disch:=omega) only [dxB])
 | m + 1,i,hi => by
  have hil : i < l.length:=by omega
  have hlt : (i : Int) < (l.length : Int):=by omega
  have t1 : ((i : Int)).toNat = i:=Int.toNat_natCast i
  have w1 : IntKind.i64.wrap ((i : Int) + 1) = ((i + 1 : Nat) : Int):=by rw [Zac (by omega)]; rfl
  have ia:=Zip (z:=z) (l:=l) (k:=.i64) (j:=(i : Int)) ⟨by omega,by omega⟩
  rw [t1] at ia
  have ib:=Zip (z:=y) (l:=l) (k:=.i64) (j:=(i : Int)) ⟨by omega,by omega⟩
  rw [t1] at ib
  have rd:=fun mm => rd_Z (G:=G) mm hil
  rw [← ZlF hl m (i + 1) (by omega)]
  rw [ZwY]
  repeat' (first | simp only [seval,exC,ZeU,hlt,ia,ib,rd,ZB,w1,ZDF,ZGl,and_self,decide_true,Bool.not_true] | simp (disch:=omega) only [dxB])
theorem ZmA (hO : HasO g T) {z y : Bool} {l : List (Nat × Nat)} (hl : l.length≤4611686018427387904) : run G T 356 [ZL z l,ZL y l] = some (.bool true):=by
 rw [Zab G T hO.ZmA]
 have lp:=ZlF (G:=G) (T:=T) (z:=z) (y:=y) (l:=l) (h:=Heap.nil) hl l.length 0 (by omega)
 simp only [cast0] at lp
 repeat' (first | simp only [seval,exC,ZiD,ZB,lp] | simp (disch:=omega) only [dxB])
theorem ZqE (hO : HasO g T) {f e st : Int} {z : Bool} {l : List (Nat × Nat)} {a b : Nat} (he : e≠0) (o : run G T 344 [.int .u8 f,ZL z l,zA a b] = some (.int .i64 e)) : run G T 355 [.int .u8 f,ZL z l,zA a b,.int .i64 st] = some (.int .i64 e):=by
 rw [Zab G T hO.law28_opens]
 simp only [zA] at *
 repeat' (first | simp only [seval,exC,Zcw,ZB,o,he] | simp (disch:=omega) only [dxB])
theorem ZrC (hO : HasO g T) {f st : Int} {z : Bool} {l : List (Nat × Nat)} {a b : Nat} (hs : st < 0∨100 < st) (o : run G T 344 [.int .u8 f,ZL z l,zA a b] = some (.int .i64 0)) : run G T 355 [.int .u8 f,ZL z l,zA a b,.int .i64 st] = some (.int .i64 2):=by
 rw [Zab G T hO.law28_opens]
 simp only [zA] at *
 by_cases h1 : st < 0
 ·repeat' (first | simp only [seval,exC,Zcw,ZB,o,h1] | simp (disch:=omega) only [dxB])
 ·have h2 : st > 100:=by omega
  repeat' (first | simp only [seval,exC,Zcw,ZB,o,h1,h2] | simp (disch:=omega) only [dxB])
theorem ZrB (hO : HasO g T) {f st : Int} {z : Bool} {l : List (Nat × Nat)} {a b : Nat} (h1 : ¬ st < 0) (h2 : ¬ st > 100) (o : run G T 344 [.int .u8 f,ZL z l,zA a b] = some (.int .i64 0)) : run G T 355 [.int .u8 f,ZL z l,zA a b,.int .i64 st] = some (.int .i64 0):=by
 rw [Zab G T hO.law28_opens]
 simp only [zA] at *
 repeat' (first | simp only [seval,exC,Zcw,ZB,o,h1,h2] | simp (disch:=omega) only [dxB])
theorem Zuo (e : Env) (h : Heap) : evL G T ZbG e h = kS G T (evL G T ZbF (keepE [1,9,10,16,17] e) h) ZbG:=Zae G T rfl e h
theorem ZqP {b n : Nat} {X Y Z : AV} (hn : n≤1000) : ∀ (m i : Nat) (cs : List AV) (bs : List Blk),bs[b]? = some ⟨cs,false⟩→cs.length = n * 2→i + m = n →
  ∃ bs',evL G T ZbG [(1,X),(9,Y),(10,.own b 0 n 2),(16,Z),(17,.int .i64 (i : Int))] ⟨bs,[]⟩ =
   some (.exit 0,[(1,X),(9,Y),(10,.own b 0 n 2),(16,Z),(17,.int .i64 (n : Int)),(80,.bool false)],⟨bs',[]⟩)∧∀ j,j≠b→bs'[j]? = bs[j]?
 | 0,i,cs,bs,hb,hc,hi => by
  have he : i = n:=by omega
  subst he
  have hn : ¬ (i : Int) < (i : Int):=by omega
  refine ⟨bs,?_,fun _ _ => rfl⟩
  rw [Zuo]
  repeat' (first | simp only [seval,exC,ZbF,hn] | simp (disch:=omega) only [dxB])
 | m + 1,i,cs,bs,hb,hc,hi => by
  have hlt : (i : Int) < (n : Int):=by omega
  have w1 : IntKind.i64.wrap ((i : Int) + 1) = ((i + 1 : Nat) : Int):=by rw [Zac (by omega)]; rfl
  have io:=Zwy (k:=b) (show i < n by omega)
  have so : setO cs (i * 2) [.int .u64 9,.int .u64 9] = some (setAt cs (i * 2) [.int .u64 9,.int .u64 9]):=by
   unfold setO; rw [if_pos (by simp only [List.length_cons,List.length_nil]; omega)]
  have hlt2:=(List.getElem?_eq_some_iff.1 hb).1
  obtain ⟨bs',ih,fr⟩:=ZqP (X:=X) (Y:=Y) (Z:=Z) hn m (i + 1) (setAt cs (i * 2) [.int .u64 9,.int .u64 9]) (bs.set b ⟨setAt cs (i * 2) [.int .u64 9,.int .u64 9],false⟩) (by rw [List.getElem?_set,if_pos rfl,if_pos hlt2]) (by rw [ZuH]; exact hc) (by omega)
  refine ⟨bs',?_,fun j hj => by rw [fr j hj,List.getElem?_set,if_neg (fun q => hj q.symm)]⟩
  rw [← ih,Zuo]
  generalize setAt cs (i * 2) _ = cs2 at *
  repeat' (first | simp only [seval,exC,ZbF,hlt,io,hb,so,w1] | simp (disch:=omega) only [dxB])
set_option maxHeartbeats 16000000 in
theorem ZjX (J : Al G T g) (hP : HasK g T) (hO : HasO g T) (h0 : T 0 = none) {f st : Int} {z : Bool} {l : List (Nat × Nat)} {a b : Nat} (h64 : W64 l) (hq : l.length * 16≤140737488351232) (ha : a < 18446744073709551616) (hb : b < 18446744073709551616) :
  run G T 326 [.int .u8 f,ZL z l,.agg [.int .u64 (a : Int),.int .u64 (b : Int)],.int .i64 st] = some (.bool true):=by
 rw [Zab G T hO.ZjX]
 have hK:=Znj J hP hO h0
 have c1:=Zjn G T hO.polish_Polish
 have a1:=Zyk (bs:=[zB (a,b),⟨[],false⟩]) (f:=[]) (b:=1) (z:=z) (l:=l) rfl rfl hq
 have hV : SL [zB (a,b),⟨[],true⟩,⟨zcells l,false⟩] 3 3 3 (.own 2 0 l.length 2) false l:=.inr ⟨rfl,2,[],rfl,by rw [List.append_nil]; rfl,by decide,by decide,by decide⟩
 have sm:=ZmA (G:=G) hO (z:=false) (y:=z) (l:=l) (by omega)
 have svc : ∀ bs : List Blk,bs[2]? = some ⟨zcells l,false⟩→snapG (Heap.mem ⟨bs,[]⟩) 3 2 0 l.length 2 = some (ZL false l):=fun bs h => sg_Z (d:=2) (ZoQ (w:=[]) (by rw [List.append_nil]; exact h))
 rcases zasked J hP (f:=f) (z:=z) (l:=l) h64 ha hb with ⟨e,he,o⟩ | ⟨F,rfl,o1,oc,hl,hw,hp,hf,fp⟩
 ·have o1:=ZqE hO (st:=st) he (o z).1
  obtain ⟨bs',pl,fr⟩:=ZsY J hP hO (steps:=st) (V:=.own 2 0 l.length 2) (z:=false) (l:=l) (p:=(a,b)) (bs:=[zB (a,b),⟨[],true⟩,⟨zcells l,false⟩]) he (o false).2 hV
  have sg:=svc bs' (fr 2 (show (2 : Nat) < 3 by decide))
  have q0 : bs'[0]? = some (zB (a,b)):=fr 0 (show (0 : Nat) < 3 by decide)
  clear fr hV svc
  simp only [zA,zB,cast0,numE,Nat.zero_add] at *
  repeat' (first | simp only [seval,exC,ZaU,numE,Nat.zero_add,ZB,ZnA,Zmc,ZEF,ZEG,c1,a1,pl,q0,o1,he,sg,sm,hK] | simp (disch:=omega) only [dxB])
 ·have hg : Pg F l:=⟨hl,hw,hf⟩
  by_cases hs : st < 0∨100 < st
  ·have o2:=ZrC hO hs (o1 z)
   obtain ⟨bs',pl,fr⟩:=ZqS J hP hO F (steps:=st) (V:=.own 2 0 l.length 2) (z:=false) (l:=l) (p:=(a,b)) (bs:=[zB (a,b),⟨[],true⟩,⟨zcells l,false⟩]) hg hp fp hs hV
   have sg:=svc bs' (fr 2 (show (2 : Nat) < 3 by decide))
   have q0 : bs'[0]? = some (zB (a,b)):=fr 0 (show (0 : Nat) < 3 by decide)
   clear fr hV svc hg
   simp only [zA,zB,cast0,numE,Nat.zero_add] at *
   repeat' (first | simp only [seval,exC,ZaU,numE,Nat.zero_add,ZB,ZnA,Zmc,ZEF,ZEG,c1,a1,pl,q0,o2,sg,sm,hK] | simp (disch:=omega) only [dxB])
  ·obtain ⟨n,rfl⟩ : ∃ n : Nat,st = (n : Int):=⟨st.toNat,by omega⟩
   have o2:=ZrB hO (st:=(n : Int)) (by omega) (by omega) (o1 z)
   obtain ⟨b',bs',pl,fr,hb',hbl⟩:=Zur J hP hO h0 F (steps:=n) (V:=.own 2 0 l.length 2) (z:=false) (l:=l) (p:=(a,b)) (bs:=[zB (a,b),⟨[],true⟩,⟨zcells l,false⟩]) hg hp fp (by omega) hV
   have rp:=ZlX J hP hO F (z:=z) (p:=(a,b)) (steps:=n) hg hp fp (by omega)
   obtain ⟨hne,hle,_⟩:=ZsU (F:=F) (l:=l) (D:=dE F l) n (a,b)
   have hn : 0 < (paP F l (dE F l) n (a,b)).1.length:=List.length_pos_iff.2 hne
   have sg:=sg_Z (d:=2) (ZoQ (bs:=bs') (f:=[]) (k:=b') (w:=[]) (by rw [List.append_nil]; exact hb'))
   have sm2:=ZmA (G:=G) hO (z:=false) (y:=false) (l:=(paP F l (dE F l) n (a,b)).1) (by omega)
   obtain ⟨bs2,lp,fr2⟩:=ZqP (G:=G) (T:=T) (b:=b') (n:=(paP F l (dE F l) n (a,b)).1.length) (X:=ZL z l) (Y:=.own 2 0 l.length 2) (Z:=.bool true) (by omega) (paP F l (dE F l) n (a,b)).1.length 0 _ bs' hb' (by rw [Zbz]) (by omega)
   have sg2:=svc bs2 ((fr2 2 (by have : (3 : Nat)≤b':=hbl; omega)).trans (fr 2 (show (2 : Nat) < 3 by decide)))
   have q0 : bs'[0]? = some (zB (a,b)):=fr 0 (show (0 : Nat) < 3 by decide)
   rw [outV,if_neg (by omega),Nat.add_sub_cancel] at pl
   clear fr hV svc hg hb' hbl fr2 hne hle
   generalize (paP F l (dE F l) n (a,b)).1 = R at *
   generalize (paP F l (dE F l) n (a,b)).2 = w at *
   simp only [zA,zB,cast0,numE,Nat.zero_add] at *
   repeat' (first | simp only [seval,exC,ZaU,numE,Nat.zero_add,ZB,ZnA,Zmc,ZEF,ZEG,c1,a1,pl,q0,o2,rp,sg,sg2,sm,sm2,lp,hK] | simp (disch:=omega) only [dxB])
end Go.Cv
