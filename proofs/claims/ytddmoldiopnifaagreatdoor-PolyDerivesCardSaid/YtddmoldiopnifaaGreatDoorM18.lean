/-
 A part of the proof of the statements of this seat (texts that the law's own text leans on): no condition.
-/
import Derived.Test.YtddmoldiopnifaaGreatDoorM17
set_option linter.unusedVariables false
set_option linter.unusedSimpArgs false
namespace Go.Cv
variable {G : Nat→Option (List AV)} {T : Tbl} {g : Nat}
theorem ZFQ (k : IntKind) (n : Int) (bs : List Nat) : fz1 (.int k n) bs = []:=rfl
theorem ZIX (b : Bool) (bs : List Nat) : fz1 (.bool b) bs = []:=rfl
set_option maxHeartbeats 8000000 in
theorem ZrJ (J : Al G T g) (hP : HasK g T) (F : Fm) {l : List (Nat × Nat)} {k : Nat} {w : List AV} {bs : List Blk} (h64 : W64 l) (hl : ¬ 41 < l.length) (hw : Zws F l) (hf : Zfs F l) (hk : bs[k]? = some ⟨zcells l ++ w,false⟩) :
  ∃ b' bs',kJ G Zbh.res (evL G T Zbh.body [(0,.int .u8 F.u),(1,.own k 0 l.length 2)] ⟨bs,[]⟩) = some (.tup [outV l.length b',.int .i64 0],⟨bs',[]⟩)∧bs'[k]? = some ⟨zcells l ++ w,false⟩∧(1 < l.length→bs'[b']? = some ⟨zcells (dT F l l.length),false⟩∧b'≠k):=by
 have z0 : (0 : Nat) < 2 * F.sg:=by cases F <;> decide
 have f0 : F.fin 0:=Zag.2 (Or.inl (by cases F <;> decide))
 have o1:=Zjs J hP F (z:=false) (l:=l) (a:=0) (b:=0) h64 (by decide) (by decide)
 rw [Zow hl ⟨hw,z0,z0⟩ ⟨hf,f0,f0⟩] at o1
 have sg : snapG (Heap.mem ⟨bs,[]⟩) 3 k 0 l.length 2 = some (ZL false l):=sg_Z (d:=2) (Zpt hk)
 have hkl:=(List.getElem?_eq_some_iff.1 hk).1
 by_cases h0 : l.length = 0
 ·have hn : (l.length : Int) = 0:=by omega
  refine ⟨0,bs,?_,hk,fun q => absurd q (by omega)⟩
  rw [show outV l.length 0 = AV.nil from if_pos (by omega)]
  simp only [zA,cast0] at *
  repeat' (first|simp (maxSteps:=9^7) only [seval,exC,Zbh,ZrX,ZbP,ZFQ,sg,o1,hn]|simp (maxSteps:=9^7) (disch:=first|with_reducible assumption|omega) only [dxB]|(simp only [kdB];split)|(simp only [kvB];split))
 ·have io:=ZyY (k:=k) (show 0 < l.length by omega)
  have ro:=ZCT (G:=G) (f:=[]) (show 0 < l.length by omega) hk
  have hlt : (0 : Int) < (l.length : Int):=by omega
  obtain ⟨b',bs',lp,hfk,hfin⟩:=Zlf J hP F (w:=w) (k:=k) (by omega) hw (l.length - 1) 1 0 (bs ++ [⟨[.int .u64 ((zc l 0).1 : Int),.int .u64 ((zc l 0).2 : Int)],false⟩]) (by omega) (by omega) (by rw [List.getElem?_append_left hkl]; exact hk) (fun q => absurd q (by omega))
  rw [show outV 1 0 = AV.nil from rfl,show (((1 : Nat)) : Int) = 1 from rfl] at lp
  refine ⟨b',bs',?_,hfk,hfin⟩
  have st0 : evL G T ZbR [(0,.int .u8 F.u),(7,.nil),(26,.own k 0 l.length 2),(27,.int .i64 (l.length : Int)),(28,.int .i64 0)] ⟨bs,[]⟩ =
    evL G T ZbR [(0,.int .u8 F.u),(7,.nil),(26,.own k 0 l.length 2),(27,.int .i64 (l.length : Int)),(28,.int .i64 1)] ⟨bs ++ [⟨[.int .u64 ((zc l 0).1 : Int),.int .u64 ((zc l 0).2 : Int)],false⟩],[]⟩:=by
   have w1 : IntKind.i64.wrap ((0 : Int) + 1) = 1:=rfl
   rw [ZrX]
   generalize zc l 0 = a at *
   simp only [cast0,Nat.zero_mul] at *
   repeat' (first|simp (maxSteps:=9^7) only [seval,exC,ZbP,gaB,hlt,io,ro,w1]|simp (maxSteps:=9^7) (disch:=first|with_reducible assumption|omega) only [dxB]|(simp only [kdB];split)|(simp only [kvB];split))
  rw [← st0] at lp
  generalize outV l.length b' = o at *
  clear hfk hfin st0
  simp only [zA,cast0] at *
  repeat' (first|simp (maxSteps:=9^7) only [seval,exC,Zbh,gaB,ZFQ,sg,o1,lp]|simp (maxSteps:=9^7) (disch:=first|with_reducible assumption|omega) only [dxB]|(simp only [kdB];split)|(simp only [kvB];split))
theorem ZnS (hP : HasK g T) {f e : Int} {l : List (Nat × Nat)} {k : Nat} {w : List AV} {bs : List Blk} (he : e≠0) (ho : run G T 375 [.int .u8 f,ZL false l,zA 0 0] = some (.int .i64 e)) (hk : bs[k]? = some ⟨zcells l ++ w,false⟩) :
  kJ G Zbh.res (evL G T Zbh.body [(0,.int .u8 f),(1,.own k 0 l.length 2)] ⟨bs,[]⟩) = some (.tup [.nil,.int .i64 e],⟨bs,[]⟩):=by
 have sg : snapG (Heap.mem ⟨bs,[]⟩) 3 k 0 l.length 2 = some (ZL false l):=sg_Z (d:=2) (Zpt hk)
 simp only [zA,cast0] at *
 repeat' (first|simp (maxSteps:=9^7) only [seval,exC,Zbh,ZFQ,sg,ho,he]|simp (maxSteps:=9^7) (disch:=first|with_reducible assumption|omega) only [dxB]|(simp only [kdB];split)|(simp only [kvB];split))
theorem ZBO (hP : HasK g T) {z : Bool} {l : List (Nat × Nat)} (hl : l.length * 16≤140737488351232) :
  kJ G Zby.res (evL G T Zby.body [(0,ZL z l)] Heap.nil) = some (.own 3 0 l.length 2,⟨[⟨[],true⟩,⟨zcells l,true⟩,⟨[.int .u64 7,.int .u64 7],false⟩,⟨zcells l ++ [.int .u64 7,.int .u64 7],false⟩],[]⟩):=by
 have a1:=ZpK (bs:=[⟨[],false⟩]) (f:=[]) (b:=0) (z:=z) (l:=l) rfl rfl hl
 have a2:=ZrM (bs:=[⟨[],true⟩,⟨zcells l,false⟩,⟨[.int .u64 7,.int .u64 7],false⟩]) (f:=[]) (b:=1) (c:=2) (x:=.int .u64 7) (y:=.int .u64 7) (l:=l) rfl rfl rfl hl
 have s1:=ZpC (m:=Heap.mem ⟨[⟨[],true⟩,⟨zcells l,true⟩,⟨[.int .u64 7,.int .u64 7],false⟩,⟨zcells l ++ [.int .u64 7,.int .u64 7],false⟩],[]⟩) (b:=3) (n:=l.length + 1) (sz:=2) (j:=l.length) (k:=.i64) rfl (by decide) (by omega)
 repeat' (first|simp (maxSteps:=9^7) only [seval,exC,Zby,ZmK,ZpV,ZB,a1,a2,s1]|simp (maxSteps:=9^7) (disch:=first|with_reducible assumption|omega) only [dxB]|(simp only [kdB];split)|(simp only [kvB];split))
theorem Zyt (e : Env) (h : Heap) : evL G T ZeX e h = kS G T (evL G T Zeo (keepE [0,1,5] e) h) ZeX:=Zae G T rfl e h
theorem Zle {z y : Bool} {l : List (Nat × Nat)} {h : Heap} (hl : l.length≤4611686018427387904) : ∀ (m i : Nat),i + m = l.length →
  evL G T ZeX [(0,ZL z l),(1,ZL y l),(5,.int .i64 (i : Int))] h =
   some (.exit 0,[(0,ZL z l),(1,ZL y l),(5,.int .i64 (l.length : Int)),(14,.bool false)],h)
 | 0,i,hi => by
  have he : i = l.length:=by omega
  subst he
  have hn : ¬ (l.length : Int) < (l.length : Int):=by omega
  rw [Zyt]
  repeat' (first|simp (maxSteps:=9^7) only [seval,exC,Zeo,ZB,hn]|simp (maxSteps:=9^7) (disch:=first|with_reducible assumption|omega) only [dxB]|(simp only [kdB];split)|(simp only [kvB];split))
 | m + 1,i,hi => by
  have hil : i < l.length:=by omega
  have hlt : (i : Int) < (l.length : Int):=by omega
  have t1 : ((i : Int)).toNat = i:=Int.toNat_natCast i
  have w1 : IntKind.i64.wrap ((i : Int) + 1) = ((i + 1 : Nat) : Int):=by rw [Zac (by omega)]; rfl
  have ia:=Zgx (z:=z) (l:=l) (k:=.i64) (j:=(i : Int)) ⟨by omega,by omega⟩
  rw [t1] at ia
  have ib:=Zgx (z:=y) (l:=l) (k:=.i64) (j:=(i : Int)) ⟨by omega,by omega⟩
  rw [t1] at ib
  have rd:=fun mm => rd_Z (G:=G) mm hil
  rw [← Zle hl m (i + 1) (by omega)]
  rw [Zyt]
  repeat' (first|simp (maxSteps:=9^7) only [seval,exC,Zeo,hlt,ia,ib,rd,ZB,w1,ZoB,Zzo,and_self,decide_true,Bool.not_true]|simp (maxSteps:=9^7) (disch:=first|with_reducible assumption|omega) only [dxB]|(simp only [kdB];split)|(simp only [kvB];split))
theorem ZnX (hP : HasK g T) {z y : Bool} {l : List (Nat × Nat)} (hl : l.length≤4611686018427387904) : run G T 352 [ZL z l,ZL y l] = some (.bool true):=by
 rw [Zab G T hP.ZnX]
 have lp:=Zle (G:=G) (T:=T) (z:=z) (y:=y) (l:=l) (h:=Heap.nil) hl l.length 0 (by omega)
 simp only [cast0] at lp
 repeat' (first|simp (maxSteps:=9^7) only [seval,exC,ZhY,ZB,lp]|simp (maxSteps:=9^7) (disch:=first|with_reducible assumption|omega) only [dxB]|(simp only [kdB];split)|(simp only [kvB];split))
theorem Ztq : ∀ (vs : List AV) (cs : List AV) (off : Nat),(setAt cs off vs).length = cs.length
 | [],cs,off => rfl
 | v :: vs,cs,off => by rw [setAt,Ztq vs,List.length_set]
theorem Zve (e : Env) (h : Heap) : evL G T Zbr e h = kS G T (evL G T ZaO (keepE [1,5,6,9,10] e) h) Zbr:=Zae G T rfl e h
theorem ZtL {b n : Nat} {X Y Z : AV} (hn : n≤1000) : ∀ (m i : Nat) (cs : List AV) (bs : List Blk),bs[b]? = some ⟨cs,false⟩→cs.length = n * 2→i + m = n →
  ∃ bs',evL G T Zbr [(1,X),(5,Y),(6,.own b 0 n 2),(9,Z),(10,.int .i64 (i : Int))] ⟨bs,[]⟩ =
   some (.exit 0,[(1,X),(5,Y),(6,.own b 0 n 2),(9,Z),(10,.int .i64 (n : Int)),(53,.bool false)],⟨bs',[]⟩)∧∀ j,j≠b→bs'[j]? = bs[j]?
 | 0,i,cs,bs,hb,hc,hi => by
  have he : i = n:=by omega
  subst he
  have hn : ¬ (i : Int) < (i : Int):=by omega
  refine ⟨bs,?_,fun _ _ => rfl⟩
  rw [Zve]
  repeat' (first|simp (maxSteps:=9^7) only [seval,exC,ZaO,hn]|simp (maxSteps:=9^7) (disch:=first|with_reducible assumption|omega) only [dxB]|(simp only [kdB];split)|(simp only [kvB];split))
 | m + 1,i,cs,bs,hb,hc,hi => by
  have hlt : (i : Int) < (n : Int):=by omega
  have w1 : IntKind.i64.wrap ((i : Int) + 1) = ((i + 1 : Nat) : Int):=by rw [Zac (by omega)]; rfl
  have io:=ZyY (k:=b) (show i < n by omega)
  have so : setO cs (i * 2) [.int .u64 9,.int .u64 9] = some (setAt cs (i * 2) [.int .u64 9,.int .u64 9]):=by
   unfold setO; rw [if_pos (by simp only [List.length_cons,List.length_nil]; omega)]
  have hlt2:=(List.getElem?_eq_some_iff.1 hb).1
  obtain ⟨bs',ih,fr⟩:=ZtL (X:=X) (Y:=Y) (Z:=Z) hn m (i + 1) (setAt cs (i * 2) [.int .u64 9,.int .u64 9]) (bs.set b ⟨setAt cs (i * 2) [.int .u64 9,.int .u64 9],false⟩) (by rw [List.getElem?_set,if_pos rfl,if_pos hlt2]) (by rw [Ztq]; exact hc) (by omega)
  refine ⟨bs',?_,fun j hj => by rw [fr j hj,List.getElem?_set,if_neg (fun q => hj q.symm)]⟩
  rw [← ih,Zve]
  generalize setAt cs (i * 2) _ = cs2 at *
  repeat' (first|simp (maxSteps:=9^7) only [seval,exC,ZaO,hlt,io,hb,so,w1]|simp (maxSteps:=9^7) (disch:=first|with_reducible assumption|omega) only [dxB]|(simp only [kdB];split)|(simp only [kvB];split))
set_option maxHeartbeats 16000000 in
theorem Zjm (J : Al G T g) (hP : HasK g T) {f : Int} {z : Bool} {l : List (Nat × Nat)} (h64 : W64 l) (hq : l.length * 16≤140737488351232) :
  run G T 325 [.int .u8 f,ZL z l] = some (.bool true):=by
 rw [Zab G T hP.Zjm]
 have hK:=ZhI J hP
 have hL:=ZBO (G:=G) hP (z:=z) hq
 have c1:=ZfH G T hP.law27_lent
 have c2:=ZfH G T hP.law27_kept
 have c3:=ZfH G T hP.poly_Deriv
 rcases zasked J hP (f:=f) (z:=z) (l:=l) (a:=0) (b:=0) h64 (by decide) (by decide) with ⟨e,he,o⟩ | ⟨F,rfl,o1,oc,hl,hw,hp,hf,fp⟩
 ·have o1:=(o z).1
  have dv:=ZnS (G:=G) (T:=T) (k:=3) (w:=[.int .u64 7,.int .u64 7]) (bs:=[⟨[],true⟩,⟨zcells l,true⟩,⟨[.int .u64 7,.int .u64 7],false⟩,⟨zcells l ++ [.int .u64 7,.int .u64 7],false⟩]) hP he (o false).2 rfl
  have hk:=Zsg (G:=G) (T:=T) (k:=3) (z:=z) (l:=l) (bs:=[⟨[],true⟩,⟨zcells l,true⟩,⟨[.int .u64 7,.int .u64 7],false⟩,⟨zcells l ++ [.int .u64 7,.int .u64 7],false⟩]) (f:=[]) hq rfl
  simp only [zA,cast0,numE,Nat.zero_add] at *
  repeat' (first|simp (maxSteps:=9^7) only [seval,exC,ZaQ,numE,Nat.zero_add,ZB,c1,c2,c3,hL,dv,hk,o1,he,hK]|simp (maxSteps:=9^7) (disch:=first|with_reducible assumption|omega) only [dxB]|(simp only [kdB];split)|(simp only [kvB];split))
 ·have o1:=o1 z
  obtain ⟨b',bs',dv,hfk,hfin⟩:=ZrJ (G:=G) (T:=T) J hP F (k:=3) (w:=[.int .u64 7,.int .u64 7]) (bs:=[⟨[],true⟩,⟨zcells l,true⟩,⟨[.int .u64 7,.int .u64 7],false⟩,⟨zcells l ++ [.int .u64 7,.int .u64 7],false⟩]) h64 hl hw hf rfl
  have rv:=ZmD J hP F (z:=z) hl hw
  have sm:=ZnX (G:=G) hP (z:=true) (y:=true) (l:=dE F l) (by rw [← Zyx,ZqT F (Nat.le_refl _)]; omega)
  by_cases h1 : 1 < l.length
  ·obtain ⟨hb,hbk⟩:=hfin h1
   have sg:=ZCV F h1 hb
   rw [show outV l.length b' = AV.own b' 0 (l.length - 1) 2 from if_neg (by omega)] at dv
   obtain ⟨bs2,lp,fr⟩:=ZtL (G:=G) (T:=T) (b:=b') (n:=l.length - 1) (X:=ZL z l) (Y:=.own 3 0 l.length 2) (Z:=.bool true) (by omega) (l.length - 1) 0 _ bs' hb (by rw [Zau,ZqT F (Nat.le_refl _)]) (by omega)
   have hk:=Zsg (G:=G) (T:=T) (k:=3) (z:=z) (l:=l) (bs:=bs2) (f:=[]) hq (by rw [fr 3 (fun q => hbk q.symm)]; exact hfk)
   have snz:=fun gg => sn_Z gg true (dE F l)
   clear fr hb hfin hfk
   generalize dE F l = D at *
   generalize hN : l.length - 1 = N at *
   simp only [zA,cast0,numE,Nat.zero_add] at *
   repeat' (first|simp (maxSteps:=9^7) only [seval,exC,ZaQ,numE,Nat.zero_add,ZB,ZIX,c1,c2,c3,hL,dv,o1,rv,sg,sm,lp,hk,hK]|simp (maxSteps:=9^7) (disch:=first|with_reducible assumption|omega) only [dxB]|(simp only [kdB];split)|(simp only [kvB];split))
  ·rw [show outV l.length b' = AV.nil from if_pos (by omega)] at dv
   rw [ZAj F (by omega),show ZL true [] = AV.nil from rfl] at rv sm
   have hk:=Zsg (G:=G) (T:=T) (k:=3) (z:=z) (l:=l) (bs:=bs') (f:=[]) hq hfk
   clear hfin hfk
   simp only [zA,cast0,numE,Nat.zero_add] at *
   repeat' (first|simp (maxSteps:=9^7) only [seval,exC,ZaQ,Zve,ZaO,numE,Nat.zero_add,ZB,c1,c2,c3,hL,dv,o1,rv,sm,hk,hK]|simp (maxSteps:=9^7) (disch:=first|with_reducible assumption|omega) only [dxB]|(simp only [kdB];split)|(simp only [kvB];split))
end Go.Cv
