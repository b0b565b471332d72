/-
 A part of the proof of the statements of this seat (texts that the law's own text leans on): no condition.
-/
import Derived.Test.YtddmoldiopnifaaGreatDoorM5
import Derived.Test.YtddmoldiopnifaaGreatDoorM8
import Derived.ProofKit
import Derived.LaidMore
import Derived.OpenShut
import Derived.Deep.Slices
import Derived.Lib.SmallJoins
import Derived.Carry
import Derived.Below
import Derived.ChangeSame
import Derived.Test.YtddmoldiopnifaaGreatDoorM15
import Derived.Deep.SlicePairs
import Derived.Test.YtddmoldiopnifaaGreatDoorM9
import Derived.Test.YtddmoldiopnifaaGreatDoorM7
import Derived.KernelRfl
import Derived.Test.YtddmoldiopnifaaGreatDoorProg
import Derived.Test.YtddmoldiopnifaaGreatDoorRows
import Derived.Test.YtddmoldiopnifaaGreatDoorChecked
import Derived.Stop.Joined
import Derived.SevenTiedAt
set_option linter.unusedVariables false
set_option linter.unusedSimpArgs false
namespace Go.Cv
open Go Go.RowKit Go.WideShapes Go.ChangeShapes Go.WideElems Go.Deep Go.Joins
section
variable {H : Type} {enc : TypeId × Value→H} {P : Program}
theorem Zlb (hl : laidOutB P = true) {W W' : World} {sp : Nat→Bool} (hb : Below W.heap.size W W') :
  ∀ {ts : List TypeId} {vs : List Value} {ds : List (DataW H)} {ps : List MemPlace},(∀ t ∈ ts,P.readableRec t = true∧t < P.types.size) →
  DataW.TrodAll enc P W 0 (fun _ => true) true ts vs ds ps→(∀ p ∈ ps,p.block < W.heap.size∧sp p.block = true)→DataW.TrodAll enc P W' 0 sp true ts vs ds ps
 | [],vs,ds,ps,_,h,_ => by
  obtain ⟨rfl,rfl,rfl⟩:=trodAll_nil h
  rfl
 | t :: ts,vs,ds,ps,ht,h,hp => by
  obtain ⟨v,vs1,d,ds1,p,q,rfl,rfl,rfl,h1,h2⟩:=trodAll_cons h
  refine ⟨p,q,?_,?_,rfl⟩
  ·exact Trod_stays hl (ht t (List.mem_cons_self ..)).1 (ht t (List.mem_cons_self ..)).2 h1 (fun x hx => hb.same (hp x (List.mem_append_left _ hx)).1) (fun x hx => (hp x (List.mem_append_left _ hx)).2)
  ·exact Zlb hl hb (fun t' h' => ht t' (List.mem_cons_of_mem _ h')) h2 (fun x hx => hp x (List.mem_append_right _ hx))
theorem ZEz {f : Func} {s : ChangeSpec} {apart fresh handsOn again : Bool} {W W' : World} {args : Array Value} {ds gs : List (DataW H)} {before : List MemPlace} {tb : TypeId}
  (hl : laidOutB P = true) (hp : f.params.toList.all (fun t => P.readableRec t && decide (t < P.types.size)) = true) (hr : f.resultTypes = #[tb]) (ht : P.underlying tb = some .bool) (hv : s.vars = [])
  (hs : s.fn H (ds ++ gs) = { results:=[.lit (.bool true)],args:=ds })
  (hW : DataW.Whole enc P f.params.toList s.vars apart W args.toList ds gs before) (hb : Below W.heap.size W W') :
  s.post enc P f apart fresh handsOn again W args (.bool true) W':=by
 have hlt : ∀ p ∈ before,p.block < W.heap.size:=fun p hp => hW.lt p hp
 have hts : ∀ t ∈ f.params.toList,P.readableRec t = true∧t < P.types.size:=fun t h => by
  have:=List.all_eq_true.1 hp t h
  simpa using this
 have hres : ∀ (b : Nat) (sp : Nat→Bool) (hd : Bool),DataW.TrodAll enc P W' b sp hd f.resultTypes.toList ((Value.bool true).resultList f.resultTypes.size) (s.fn H (ds ++ gs)).results []:=fun b sp hd => by
  rw [hs,hr]; exact trodAll_mk1 (shut_bool ht true)
 have hW0:=hW
 obtain ⟨p,q,hA,hV,hpq,hz,hn⟩:=hW
 rw [hv] at hV
 obtain ⟨rfl,rfl⟩:=trodVars_none hV
 rw [List.append_nil] at hpq
 subst hpq
 have hargs : ∀ sp : Nat→Bool,(∀ x ∈ before,sp x.block = true)→DataW.TrodAll enc P W' 0 sp true f.params.toList args.toList (s.fn H (ds ++ [])).args before:=fun sp h => by
  rw [hs]; exact Zlb hl hb hts hA (fun x hx => ⟨hlt x hx,h x hx⟩)
 have hvars : ∀ sp : Nat→Bool,DataW.TrodVars enc P W' sp s.vars (s.fn H (ds ++ [])).vars []:=fun sp => by rw [hs,hv]; rfl
 have hold : ∀ p ∈ before,(fun b => decide (b < W.heap.size)) p.block = true:=fun p hp => by simpa using hlt p hp
 refine ⟨ds,[],before,[],before,[],hW0,hres _ _ _,hargs _ hold,hvars _,World.keptBut_mono (fun p hp => ⟨hp,?_⟩) (hb.frame (· ∈ before)),fun _ => ?_⟩
 ·exact Or.inr (Or.inl hp)
 ·refine ⟨ok_one hr rfl (okWide_bool_mk ht true),_,_,([] ++ before) ++ [],⟨[] ++ before,[],trodAll_append (hargs _ (fun _ _ => rfl)) (hres _ _ _),hvars _,rfl,?_,?_⟩,?_⟩
  ·intro b off hp
   have hin : MemPlace.cell b off ∈ before:=by simpa using hp
   rw [hb.frozen (hlt _ hin)]
   exact hz b off hin
  ·intro ha
   simpa using hn ha
  ·intro p hp _
   simpa using hp
theorem Zxn {w : World} {a : Addr} {v : Value} (h : w.cell? (a.add 0) = some v) : a = ⟨a.block,a.off,none⟩:=by
 obtain ⟨b,o,s⟩:=a
 cases s with
 | none => rfl
 | some s =>
  exfalso
  unfold World.cell? Addr.add at h
  simp only [if_true] at h
  split at h
  ·simp at h
  ·cases h
end
theorem ZEY {P : Program} {L : Nat→Option FuncId} {G : Nat→Option (List AV)} {T : Tbl} (hm : P.follows .mixedOrders = true) (hP : ProgOK P L T) {f : Nat} {g : FuncId} {args : List AV} (hLf : L f = some g)
  (hr : run G T f args = some (.bool true)) {W : World} (hG : Gok G ⟨L,W,fun r => r < W.heap.size,noι⟩) {us : Array Value} (hu : RelL ⟨L,W,fun r => r < W.heap.size,noι⟩ args us.toList)
  {Q : Value→World→Prop} (hQ : ∀ W',Go.RowKit.Below W.heap.size W W'→Q (.bool true) W') :
  Calls P g us W fun e W' => ∃ v,e = .returned v∧Q v W':=by
 have h:=Zxc hm hP hLf hr W (fun r => r < W.heap.size) (fun _ h => h) hG hu
 refine h.mono ?_
 rintro e W' ⟨u,rfl,hb,hrel⟩
 simp only [Rel] at hrel
 subst hrel
 exact ⟨_,rfl,hQ W' hb⟩
theorem ZCZ {L : Nat→Option FuncId} {W : World} {g : Nat} {l : List Nat} (h : ∀ (j d : Nat),l[j]? = some d→W.cell? ⟨g,j,none⟩ = some (.int .u8 (d : Int))) (hl : 0 < l.length) :
  Gok (fun n => if n = g then some (l.map fun (d : Nat) => .int .u8 (d : Int)) else none) ⟨L,W,fun r => r < W.heap.size,noι⟩:=by
 intro g' cs hg
 simp only at hg
 split at hg
 ·next he =>
  subst he
  cases hg
  constructor
  ·have h0:=h 0 l[0] (List.getElem?_eq_getElem hl)
   show g' < W.heap.size
   unfold World.cell? at h0
   split at h0
   ·next c _ _ hh => exact ZjN hh
   ·cases h0
  ·rw [Zar]
   intro j v hj
   rw [List.getElem?_map] at hj
   cases hd : l[j]? with
   | none => rw [hd] at hj; cases hj
   | some d =>
    rw [hd] at hj
    simp only [Option.map_some,Option.some.injEq] at hj
    subst hj
    rw [Nat.zero_add]
    exact ⟨_,h j d hd,rfl,by simp only [Rel]⟩
 ·cases hg
section
variable {H : Type} {enc : TypeId × Value→H} {P : Program}
theorem ZEn {w : World} {base : Nat} {sp : Nat→Bool} {held : Bool} {t e : TypeId} {fuel : Nat} {cs : Array Value} {l : List Nat} {ps : List MemPlace}
  (ht : P.underlying t = some (.array l.length e)) (he : P.underlying e = some (.int .u8)) (hc : P.cellsOf e = 1)
  (h : DataW.trod enc P w base sp held fuel t cs.toList = some (.agg (l.map fun (d : Nat) => .lit (.int .u8 (d : Int))),ps)) : ∀ (j d : Nat),l[j]? = some d→cs[j]? = some (.int .u8 (d : Int)):=by
 obtain ⟨xs,m,rfl,hx,hlen,hn,hel⟩:=DataW.trod_array ht h
 intro j d hj
 have hjl : j < l.length:=(List.getElem?_eq_some_iff.1 hj).1
 have h1:=hel j hjl
 simp only [Prod.mk.injEq,DataW.agg.injEq] at hx
 have hxj : xs[j]? = some xs[j]:=List.getElem?_eq_getElem (by omega)
 rw [hxj,hc,Nat.mul_one] at h1
 obtain ⟨k,e1,e2,_⟩:=DataW.trod_int he h1
 have h3 : (l.map fun (d : Nat) => (DataW.lit (.int .u8 (d : Int)) : DataW H))[j]? = (xs.map (·.1))[j]?:=by rw [hx.1]
 rw [List.getElem?_map,List.getElem?_map,hj,hxj] at h3
 simp only [Option.map_some,Option.some.injEq,e2] at h3
 simp only [DataW.lit.injEq,Lit.int.injEq,true_and] at h3
 subst h3
 have h4 : (cs.toList.drop j).take 1 = [.int .u8 (d : Int)]:=e1
 have h5 : cs.toList[j]? = some (.int .u8 (d : Int)):=by
  have : ((cs.toList.drop j).take 1)[0]? = some (.int .u8 (d : Int)):=by rw [h4]; rfl
  rw [List.getElem?_take] at this
  simpa using this
 simpa using h5
end
end Go.Cv
namespace Go.Cv
open Go Go.RowKit Go.WideShapes Go.ChangeShapes Go.WideElems Go.Deep Go.Joins
section
variable {H : Type} {enc : TypeId × Value→H} {P : Program}
theorem ZpC {a : Int} (h : (Lit.int .u64 a).wf = true) : ∃ k : Nat,k < 18446744073709551616∧a = (k : Int):=by
 have h2 : (decide ((0 : Int)≤a) && decide (a≤18446744073709551615)) = true:=h
 simp only [Bool.and_eq_true,decide_eq_true_eq] at h2
 exact ⟨a.toNat,by omega,by omega⟩
theorem ZFt {w : World} {S : Sc} {r : Reach} {b0 base : Nat} {held : Bool} {t : TypeId} {f0 f1 : Field} {v : Value} {d : DataW H} {p : List MemPlace}
  (hs : P.underlying t = some (.struct #[f0,f1])) (hone : oneCellFields P #[f0,f1] = true) (hC : P.cellsOf t = 2) (h0 : P.underlying f0.type = some (.int .u64)) (h1 : P.underlying f1.type = some (.int .u64))
  (hv : Value.okWide P w r b0 t v) (h : DataW.Trod enc P w base (fun _ => true) held t v d p) :
  ∃ a b : Nat,a < 18446744073709551616∧b < 18446744073709551616∧Rel S (.agg [.int .u64 (a : Int),.int .u64 (b : Int)]) v:=by
 obtain ⟨v0,v1,y0,y1,n,rfl,_,_,k0,k1⟩:=open_agg2 hs hone hC hv h
 obtain ⟨x,hx,_,hw0⟩:=DataW.trod_int h0 k0
 obtain rfl : v0 = .int .u64 x:=by simpa using hx
 obtain ⟨y,hy,_,hw1⟩:=DataW.trod_int h1 k1
 obtain rfl : v1 = .int .u64 y:=by simpa using hy
 obtain ⟨a,a1,rfl⟩:=ZpC hw0
 obtain ⟨b,b1,rfl⟩:=ZpC hw1
 refine ⟨a,b,a1,b1,?_⟩
 simp only [Rel,RelL]
 exact ⟨_,rfl,.int .u64 a,[.int .u64 b],rfl,rfl,.int .u64 b,[],rfl,rfl,rfl⟩
end
end Go.Cv
namespace Go.Cv
open Go Go.RowKit Go.WideShapes Go.ChangeShapes Go.WideElems Go.Deep Go.Joins
section
variable {H : Type} {enc : TypeId × Value→H} {P : Program}
end
end Go.Cv
namespace Go.Cv
open Go Go.RowKit Go.WideShapes Go.ChangeShapes Go.WideElems Go.Deep Go.Joins
section
variable {H : Type} {enc : TypeId × Value→H} {P : Program}
theorem ZFb {w : World} {S : Sc} (hw : S.w = w) (hro : ∀ r,r < w.heap.size→S.ro r) {base : Nat} {held : Bool} {t e : TypeId} {f0 f1 : Field} {r : Reach} {b0 : Nat} {v : Value} {d : DataW H} {p : List MemPlace}
  (ht : P.underlying t = some (.slice e)) (hs : P.underlying e = some (.struct #[f0,f1])) (hone : oneCellFields P #[f0,f1] = true) (hc : P.cellsOf e = 2) (h0 : P.underlying f0.type = some (.int .u64)) (h1 : P.underlying f1.type = some (.int .u64))
  (hv : Value.okWide P w r b0 t v) (h : DataW.Trod enc P w base (fun _ => true) held t v d p) :
  ∃ z l,(∀ q ∈ l,q.1 < 18446744073709551616∧q.2 < 18446744073709551616)∧Rel S (ZL z l) v∧(l = []∨∃ es sp,d = .slice es sp∧es.length = l.length):=by
 obtain ⟨o0,c0⟩:=hone_of hone 0 f0 rfl
 obtain ⟨o1,c1⟩:=hone_of hone 1 f1 rfl
 obtain ⟨fuel,h⟩:=h
 obtain ⟨sa,sl,sc,rfl⟩:=okWide_slice ht hv
 have hcell : (Value.slice sa sl sc).cells.toList = [.slice sa sl sc]:=rfl
 rw [hcell] at h
 rcases open_slice_pairs ht hs hc o0 o1 c0 c1 h with ⟨hcs,_⟩ | ⟨a,len,cap,m,n,V0,V1,D0,D1,P0,P1,hcs,hb,hl,hm,hmm,hxx,hx⟩
 ·obtain ⟨rfl,rfl,rfl⟩ : sa = none∧sl = 0∧sc = 0:=by simpa using hcs
  refine ⟨true,[],by simp,?_,Or.inl rfl⟩
  show Rel S .nil _
  simp only [Rel]
 ·obtain ⟨rfl,rfl,rfl⟩ : sa = some a∧sl = len∧sc = cap:=by simpa using hcs
  simp only [if_true] at hmm
  subst hmm
  have word : ∀ {q : Value} {t' : TypeId} {x : DataW H × List MemPlace},P.underlying t' = some (.int .u64)→DataW.trod enc P w base (fun _ => true) held n t' [q] = some x→∃ k : Nat,k < 18446744073709551616∧q = .int .u64 (k : Int):=fun {q t' x} hu hq => by
   obtain ⟨n',e1,_,e3⟩:=DataW.trod_int hu hq
   obtain ⟨k,k1,rfl⟩:=ZpC e3
   exact ⟨k,k1,by simpa using e1⟩
  have hV : ∀ i,i < m→∃ q : Nat × Nat,(q.1 < 18446744073709551616∧q.2 < 18446744073709551616)∧V0 i = .int .u64 (q.1 : Int)∧V1 i = .int .u64 (q.2 : Int):=fun i hi => by
   obtain ⟨_,_,x3,x4⟩:=hx i hi
   obtain ⟨k,k1,k2⟩:=word h0 x3
   obtain ⟨l,l1,l2⟩:=word h1 x4
   exact ⟨(k,l),⟨k1,l1⟩,k2,l2⟩
  obtain ⟨q,hq⟩:=choose_lt hV
  have hlen : ((List.range sl).map q).length = sl:=by simp
  obtain ⟨hd,_⟩:=Prod.mk.inj hxx
  refine ⟨false,(List.range sl).map q,?_,?_,Or.inr ⟨_,_,hd,by simp⟩⟩
  ·intro y hy
   obtain ⟨i,hi,rfl⟩:=List.mem_map.1 hy
   exact (hq i (by have:=List.mem_range.1 hi; omega)).1
  ·unfold ZL
   rw [if_neg (fun x => by cases x.1),hlen]
   simp only [Rel]
   refine ⟨some a,m,rfl,hl,?_⟩
   by_cases hl0 : sl = 0
   ·left; subst hl0; rfl
   ·right
    have c0:=(hx 0 (by omega)).1
    rw [Nat.zero_mul] at c0
    have ha:=Zxn c0
    refine ⟨a.block,a.off,by rw [← ha],hro _ ?_,?_⟩
    ·unfold World.cell? at c0
     split at c0
     ·next c _ _ hh => 
      have hab : (a.add 0).block = a.block:=by unfold Addr.add; rfl
      rw [hab] at hh
      exact ZjN hh
     ·cases c0
    ·rw [Zar]
     intro j u hj
     rw [Zoh,List.getElem?_map] at hj
     rcases Nat.lt_or_ge (j / 2) sl with hjl | hjl
     ·rw [List.getElem?_range hjl] at hj
      simp only [Option.map_some,Option.some.injEq] at hj
      obtain ⟨_,g1,g2⟩:=hq (j / 2) (by omega)
      obtain ⟨x1,x2,_,_⟩:=hx (j / 2) (by omega)
      rw [ha,ZcF] at x1 x2
      subst hj
      by_cases ev : j % 2 = 0
      ·rw [show a.off + j / 2 * 2 = a.off + j by omega,g1] at x1
       refine ⟨_,by rw [← hw] at x1; exact x1,rfl,?_⟩
       rw [if_pos ev]
       simp only [Rel]
      ·rw [show a.off + (j / 2 * 2 + 1) = a.off + j by omega,g2] at x2
       refine ⟨_,by rw [← hw] at x2; exact x2,rfl,?_⟩
       rw [if_neg ev]
       simp only [Rel]
     ·rw [List.getElem?_eq_none (by simpa using hjl)] at hj
      cases hj
end
end Go.Cv
namespace Go.Cv
def glb (g : Nat) : Nat→Option (List AV):=fun n => if n = g then some (ntz32.map fun (d : Nat) => .int .u8 (d : Int)) else none
theorem glob (g : Nat) : Glob (glb g) g:=if_pos rfl
theorem al (g : Nat) : Al (glb g) (tbl g) g:=⟨hasA g,hasB g,hasC g,hasD g,hasE g,hasF g,hasG g,hasH g,hasJ g,glob g⟩
end Go.Cv
set_option maxRecDepth 100000
namespace Go.Proofs.YtddmoldiopnifaaGreatDoor
open Go Go.Cv
def tosL : List Nat:=[0,0,0,0,0,0,0,0,0,0,323,0,0,0,0,0,27,0,0,185,0,0,0,0,250,0,20,0,0,0,0,0,149,150,156,0,0,0,0,0,342,0,344,345,0,155,0,0,0,70,151,69,154,349,67,65,31,68,33,0,0,0,0,0,0,0,0,0,0,0,0,0,0,252,0,0,0,0,0,0,0,45,46,0,0,0,0,0,0,0,169,0,0,0,0,0,0,0,236,73,0,304,26,192,375,376,262,377,378,379,380,0,0,0,0,63,0,102,16,32,158,44,80,72,99,100,101,0,165,0,0,0,0,0,0,0,268,269,270,271,272,0,0,0,0,0,0,0,0,0,83,84,85,0,195,278,279,0,0,0,186,18,0,0,0,0,312,58,60,95,200,196,189,285,164,393,193,0,0,0,0,0,0,64,82,7,176,178,179,180,181,182,183,0,0,0,0,0,289,290,291,292,293,294,295,296,54,55,0,0,0,0,111,302,74,203,184,0,0,8,191,21,22,43,23,24,0,0,0,0,0,0,115,204,286,177,399,194,400,201,57,197,0,0,0,307,308,309,310,15,86,90,50,94,0,48,205,49,207,208,198,25,47,75,81,78,51,52,53,56,0,0,0,404,202,96,98,106,117,113,0,0,0,0,313,315,40,114,89,91,0,87,88,103,105,209,104,59,77,112,107,92,93,97,0,0,76,116,108,109,0,121,118,119,120,0,0,0,0,0,0,0,0,0,0,0,0,0,0,0,0,0,0,0,0,0]
def lnk : List (Nat × Nat):=[(323,10),(27,16),(185,19),(250,24),(20,26),(149,32),(150,33),(156,34),(342,40),(344,42),(345,43),(155,45),(70,49),(151,50),(69,51),(154,52),(349,53),(67,54),(65,55),(31,56),(68,57),(33,58),(252,73),(45,81),(46,82),(169,90),(236,98),(73,99),(304,101),(26,102),(192,103),(375,104),(376,105),(262,106),(377,107),(378,108),(379,109),(380,110),(63,115),(102,117),(16,118),(32,119),(158,120),(44,121),(80,122),(72,123),(99,124),(100,125),(101,126),(165,128),(268,136),(269,137),(270,138),(271,139),(272,140),(83,150),(84,151),(85,152),(195,154),(278,155),(279,156),(186,160),(18,161),(312,166),(58,167),(60,168),(95,169),(200,170),(196,171),(189,172),(285,173),(164,174),(393,175),(193,176),(64,183),(82,184),(7,185),(176,186),(178,187),(179,188),(180,189),(181,190),(182,191),(183,192),(289,198),(290,199),(291,200),(292,201),(293,202),(294,203),(295,204),(296,205),(54,206),(55,207),(111,212),(302,213),(74,214),(203,215),(184,216),(8,219),(191,220),(21,221),(22,222),(43,223),(23,224),(24,225),(115,232),(204,233),(286,234),(177,235),(399,236),(194,237),(400,238),(201,239),(57,240),(197,241),(307,245),(308,246),(309,247),(310,248),(15,249),(86,250),(90,251),(50,252),(94,253),(48,255),(205,256),(49,257),(207,258),(208,259),(198,260),(25,261),(47,262),(75,263),(81,264),(78,265),(51,266),(52,267),(53,268),(56,269),(404,273),(202,274),(96,275),(98,276),(106,277),(117,278),(113,279),(313,284),(315,285),(40,286),(114,287),(89,288),(91,289),(87,291),(88,292),(103,293),(105,294),(209,295),(104,296),(59,297),(77,298),(112,299),(107,300),(92,301),(93,302),(97,303),(76,306),(116,307),(108,308),(109,309),(121,311),(118,312),(119,313),(120,314)]
def toS (g : FuncId) : Option Nat:=match tosL.getD g 0 with | 0 => none | n + 1 => some (n + 1)
def lnkF (l : List (Nat × Nat)) (f : Nat) : Option FuncId:=match l with | [] => none | p :: r => if p.1 = f then some p.2 else lnkF r f
def L0 (f : Nat) : Option FuncId:=lnkF lnk f
def AllP (Q : Nat→Nat→Prop) : List (Nat × Nat)→Prop | [] => True | p :: l => Q p.1 p.2∧AllP Q l
theorem AllP.of {Q : Nat→Nat→Prop} : ∀ {l : List (Nat × Nat)},AllP Q l→∀ f g,lnkF l f = some g→Q f g
 | [],_,f,g,h => by cases h
 | p :: l,⟨h1,h2⟩,f,g,h => by
  unfold lnkF at h
  by_cases he : p.1 = f
  ·rw [if_pos he] at h; cases h; subst he; exact h1
  ·rw [if_neg he] at h; exact AllP.of h2 f g h
def bodyB (P : Program) (p : Nat × Nat) : Bool:=match P.funcs[p.2]? with | some fn => (fn.name != "runtime.NumGoroutine") | none => false
theorem bodies : lnk.all (bodyB Tryz.prog) = true:=by kernel_rfl
theorem toB : (List.range tosL.length).all (fun g => match toS g with | some f => (L0 f == some g) | none => true) = true:=by kernel_rfl
theorem Zwn : ∀ (l : List (Nat × Nat)) (f g : Nat),lnkF l f = some g→(f,g) ∈ l
 | [],_,_,h => by cases h
 | p :: l,f,g,h => by
  unfold lnkF at h
  by_cases he : p.1 = f
  ·rw [if_pos he] at h; cases h; subst he; exact List.mem_cons_self ..
  ·rw [if_neg he] at h; exact List.mem_cons_of_mem _ (Zwn l f g h)
theorem ZBz (C : CC) (hP : C.P = Tryz.prog) (hS : C.toS = toS) : Link C L0:=by
 constructor
 ·intro g f h
  rw [hS] at h
  have hb:=List.all_eq_true.1 toB
  have hg : g < tosL.length:=by
   rcases Nat.lt_or_ge g tosL.length with x | x
   ·exact x
   ·exfalso; unfold toS at h; rw [List.getD_eq_getElem?_getD,List.getElem?_eq_none x] at h; cases h
  have:=hb g (List.mem_range.2 hg)
  rw [h] at this
  simpa using this
 ·intro f g h
  have:=List.all_eq_true.1 bodies _ (Zwn _ _ _ h)
  unfold bodyB at this
  rw [hP]
  cases hf : Tryz.prog.funcs[g]? with
  | none => simp [hf] at this
  | some fn => simp [hf] at this; exact ⟨fn,rfl,this⟩
def FnOK (f g : Nat) : Prop:=FnB Tryz.prog L0 (tbl 1) f g∨FnP Tryz.prog (tbl 1) f g
theorem ZvR {f g : Nat} (C : CC) (fn : Func) (fi : IFn) (h1 : C.P = Tryz.prog) (h2 : C.toS = toS) (h3 : Tryz.prog.funcs[g]? = some fn) (h4 : C.N = fn.ntmps) (h5 : tbl 1 f = some fi) (h6 : fn.body.bind (compC C) = some (erase fi.body)) (h7 : mapO (compRes Tryz.prog) fn.results.toList = some fi.res) : FnOK f g:=by
 cases hb : fn.body with
 | none => rw [hb] at h6; cases h6
 | some c => rw [hb] at h6; exact .inl ⟨C,fn,c,fi,h1,ZBz C h1 h2,h3,Nat.le_of_eq h4,hb,h5,h6,h7⟩
noncomputable def C0 (n : Nat) : CC:={ P:=Tryz.prog,toS:=toS,inl:=fun n => List.elem n ([] : List Nat),dyn:=false,N:=n }
theorem fm {f g : Nat} (fn : Func) (fi : IFn) (h3 : Tryz.prog.funcs[g]? = some fn) (h5 : tbl 1 f = some fi:=by rfl) (h6 : fn.body.bind (compC (C0 fn.ntmps)) = some (erase fi.body):=by kernel_rfl) (h7 : mapO (compRes Tryz.prog) fn.results.toList = some fi.res:=by kernel_rfl) : FnOK f g:=ZvR (C0 fn.ntmps) fn fi rfl rfl h3 rfl h5 h6 h7
theorem ok10 : FnOK 323 10:=fm Tryz.f10 ZaZ Tryz.func10
theorem ok16 : FnOK 27 16:=fm Tryz.f16 Zjk Tryz.func16
theorem ok19 : FnOK 185 19:=fm Tryz.f19 ZbD Tryz.func19
theorem ok24 : FnOK 250 24:=fm Tryz.f24 ZbP Tryz.func24
theorem ok26 : FnOK 20 26:=fm Tryz.f26 ZfL Tryz.func26
theorem ok32 : FnOK 149 32:=fm Tryz.f32 ZeA Tryz.func32
theorem ok33 : FnOK 150 33:=fm Tryz.f33 ZcD Tryz.func33
theorem ok34 : FnOK 156 34:=fm Tryz.f34 Zfh Tryz.func34
theorem ok40 : FnOK 342 40:=fm Tryz.f40 ZdL Tryz.func40
theorem ok42 : FnOK 344 42:=fm Tryz.f42 ZaP Tryz.func42
theorem ok43 : FnOK 345 43:=fm Tryz.f43 ZeT Tryz.func43
theorem ok45 : FnOK 155 45:=fm Tryz.f45 Zfg Tryz.func45
theorem ok49 : FnOK 70 49:=fm Tryz.f49 ZhP Tryz.func49
theorem ok50 : FnOK 151 50:=fm Tryz.f50 Zdn Tryz.func50
theorem ok51 : FnOK 69 51:=fm Tryz.f51 ZhN Tryz.func51
theorem ok52 : FnOK 154 52:=fm Tryz.f52 ZhO Tryz.func52
theorem ok53 : FnOK 349 53:=fm Tryz.f53 Zgs Tryz.func53
theorem ok54 : FnOK 67 54:=fm Tryz.f54 ZaM Tryz.func54
theorem ok55 : FnOK 65 55:=fm Tryz.f55 Zdm Tryz.func55
theorem ok56 : FnOK 31 56:=fm Tryz.f56 Zgp Tryz.func56
theorem ok57 : FnOK 68 57:=fm Tryz.f57 ZhQ Tryz.func57
theorem ok58 : FnOK 33 58:=fm Tryz.f58 ZhR Tryz.func58
theorem ok73 : FnOK 252 73:=fm Tryz.f73 ZfD Tryz.func73
theorem ok81 : FnOK 45 81:=fm Tryz.f81 Zez Tryz.func81
theorem ok82 : FnOK 46 82:=fm Tryz.f82 Zjj Tryz.func82
theorem ok90 : FnOK 169 90:=fm Tryz.f90 ZeU Tryz.func90
theorem ok98 : FnOK 236 98:=fm Tryz.f98 Zei Tryz.func98
theorem ok99 : FnOK 73 99:=fm Tryz.f99 Zgr Tryz.func99
theorem ok101 : FnOK 304 101:=fm Tryz.f101 ZdK Tryz.func101
theorem ok102 : FnOK 26 102:=fm Tryz.f102 Zjm Tryz.func102
theorem ok103 : FnOK 192 103:=fm Tryz.f103 Zgv Tryz.func103
theorem ok104 : FnOK 375 104:=fm Tryz.f104 ZbH Tryz.func104
theorem ok105 : FnOK 376 105:=fm Tryz.f105 Zfc Tryz.func105
theorem ok106 : FnOK 262 106:=fm Tryz.f106 ZhC Tryz.func106
theorem ok107 : FnOK 377 107:=fm Tryz.f107 Zfd Tryz.func107
theorem ok108 : FnOK 378 108:=fm Tryz.f108 Zfe Tryz.func108
theorem ok109 : FnOK 379 109:=fm Tryz.f109 Zcd Tryz.func109
theorem ok110 : FnOK 380 110:=fm Tryz.f110 ZbG Tryz.func110
theorem ok115 : FnOK 63 115:=fm Tryz.f115 Zgq Tryz.func115
theorem ok117 : FnOK 102 117:=fm Tryz.f117 ZfM Tryz.func117
theorem ok118 : FnOK 16 118:=fm Tryz.f118 ZcW Tryz.func118
theorem ok119 : FnOK 32 119:=fm Tryz.f119 ZfN Tryz.func119
theorem ok120 : FnOK 158 120:=fm Tryz.f120 ZdM Tryz.func120
theorem ok121 : FnOK 44 121:=fm Tryz.f121 ZbC Tryz.func121
theorem ok122 : FnOK 80 122:=fm Tryz.f122 ZfK Tryz.func122
theorem ok123 : FnOK 72 123:=fm Tryz.f123 Zhe Tryz.func123
theorem ok124 : FnOK 99 124:=fm Tryz.f124 ZhK Tryz.func124
theorem ok125 : FnOK 100 125:=fm Tryz.f125 ZcP Tryz.func125
theorem ok126 : FnOK 101 126:=fm Tryz.f126 ZhL Tryz.func126
theorem ok128 : FnOK 165 128:=fm Tryz.f128 ZcZ Tryz.func128
theorem ok136 : FnOK 268 136:=fm Tryz.f136 ZaA Tryz.func136
theorem ok137 : FnOK 269 137:=fm Tryz.f137 Zcn Tryz.func137
theorem ok138 : FnOK 270 138:=fm Tryz.f138 ZbV Tryz.func138
theorem ok139 : FnOK 271 139:=fm Tryz.f139 Zdg Tryz.func139
theorem ok140 : FnOK 272 140:=fm Tryz.f140 ZgY Tryz.func140
theorem ok150 : FnOK 83 150:=fm Tryz.f150 ZfJ Tryz.func150
theorem ok151 : FnOK 84 151:=fm Tryz.f151 Zex Tryz.func151
theorem ok152 : FnOK 85 152:=fm Tryz.f152 Zgo Tryz.func152
theorem ok154 : FnOK 195 154:=fm Tryz.f154 Zje Tryz.func154
theorem ok155 : FnOK 278 155:=fm Tryz.f155 Zcm Tryz.func155
theorem ok156 : FnOK 279 156:=fm Tryz.f156 Zcl Tryz.func156
theorem ok160 : FnOK 186 160:=fm Tryz.f160 ZbN Tryz.func160
theorem ok161 : FnOK 18 161:=fm Tryz.f161 ZeC Tryz.func161
theorem ok166 : FnOK 312 166:=fm Tryz.f166 ZhV Tryz.func166
theorem ok167 : FnOK 58 167:=fm Tryz.f167 Zgw Tryz.func167
theorem ok168 : FnOK 60 168:=fm Tryz.f168 ZcJ Tryz.func168
theorem ok169 : FnOK 95 169:=fm Tryz.f169 ZcQ Tryz.func169
theorem ok170 : FnOK 200 170:=fm Tryz.f170 ZaF Tryz.func170
theorem ok171 : FnOK 196 171:=fm Tryz.f171 ZhW Tryz.func171
theorem ok172 : FnOK 189 172:=fm Tryz.f172 ZaJ Tryz.func172
theorem ok173 : FnOK 285 173:=fm Tryz.f173 ZeS Tryz.func173
theorem ok174 : FnOK 164 174:=fm Tryz.f174 Zjl Tryz.func174
theorem ok175 : FnOK 393 175:=fm Tryz.f175 ZbZ Tryz.func175
theorem ok176 : FnOK 193 176:=fm Tryz.f176 ZeD Tryz.func176
theorem ok183 : FnOK 64 183:=fm Tryz.f183 ZfI Tryz.func183
theorem ok184 : FnOK 82 184:=fm Tryz.f184 Zey Tryz.func184
theorem ok185 : FnOK 7 185:=fm Tryz.f185 Zdq Tryz.func185
theorem ok186 : FnOK 176 186:=fm Tryz.f186 ZhU Tryz.func186
theorem ok187 : FnOK 178 187:=fm Tryz.f187 Zfv Tryz.func187
theorem ok188 : FnOK 179 188:=fm Tryz.f188 ZcH Tryz.func188
theorem ok189 : FnOK 180 189:=fm Tryz.f189 Zds Tryz.func189
theorem ok190 : FnOK 181 190:=fm Tryz.f190 ZcI Tryz.func190
theorem ok191 : FnOK 182 191:=fm Tryz.f191 Zjf Tryz.func191
theorem ok192 : FnOK 183 192:=fm Tryz.f192 Zcj Tryz.func192
theorem ok198 : FnOK 289 198:=fm Tryz.f198 Zem Tryz.func198
theorem ok199 : FnOK 290 199:=fm Tryz.f199 Zel Tryz.func199
theorem ok200 : FnOK 291 200:=fm Tryz.f200 Zdu Tryz.func200
theorem ok201 : FnOK 292 201:=fm Tryz.f201 ZbI Tryz.func201
theorem ok202 : FnOK 293 202:=fm Tryz.f202 ZbJ Tryz.func202
theorem ok203 : FnOK 294 203:=fm Tryz.f203 Zbt Tryz.func203
theorem ok204 : FnOK 295 204:=fm Tryz.f204 ZaU Tryz.func204
theorem ok205 : FnOK 296 205:=fm Tryz.f205 ZeR Tryz.func205
theorem ok206 : FnOK 54 206:=fm Tryz.f206 ZfB Tryz.func206
theorem ok207 : FnOK 55 207:=fm Tryz.f207 ZlX Tryz.func207
theorem ok212 : FnOK 111 212:=fm Tryz.f212 ZfH Tryz.func212
theorem ok213 : FnOK 302 213:=fm Tryz.f213 Zbp Tryz.func213
theorem ok214 : FnOK 74 214:=fm Tryz.f214 Zhz Tryz.func214
theorem ok215 : FnOK 203 215:=fm Tryz.f215 ZdH Tryz.func215
theorem ok216 : FnOK 184 216:=fm Tryz.f216 Zjg Tryz.func216
theorem ok219 : FnOK 8 219:=fm Tryz.f219 ZeB Tryz.func219
theorem ok220 : FnOK 191 220:=fm Tryz.f220 ZcG Tryz.func220
theorem ok221 : FnOK 21 221:=fm Tryz.f221 ZcX Tryz.func221
theorem ok222 : FnOK 22 222:=fm Tryz.f222 Zhy Tryz.func222
theorem ok223 : FnOK 43 223:=fm Tryz.f223 ZfC Tryz.func223
theorem ok224 : FnOK 23 224:=fm Tryz.f224 Zek Tryz.func224
theorem ok225 : FnOK 24 225:=fm Tryz.f225 ZaD Tryz.func225
theorem ok232 : FnOK 115 232:=fm Tryz.f232 Zen Tryz.func232
theorem ok233 : FnOK 204 233:=fm Tryz.f233 Zcs Tryz.func233
theorem ok234 : FnOK 286 234:=fm Tryz.f234 ZcV Tryz.func234
theorem ok235 : FnOK 177 235:=fm Tryz.f235 Zao Tryz.func235
theorem ok236 : FnOK 399 236:=fm Tryz.f236 Zhx Tryz.func236
theorem ok237 : FnOK 194 237:=fm Tryz.f237 Zda Tryz.func237
theorem ok238 : FnOK 400 238:=fm Tryz.f238 Zev Tryz.func238
theorem ok239 : FnOK 201 239:=fm Tryz.f239 Zbj Tryz.func239
theorem ok240 : FnOK 57 240:=fm Tryz.f240 ZhX Tryz.func240
theorem ok241 : FnOK 197 241:=fm Tryz.f241 Zhb Tryz.func241
theorem ok245 : FnOK 307 245:=fm Tryz.f245 ZaK Tryz.func245
theorem ok246 : FnOK 308 246:=fm Tryz.f246 Zbq Tryz.func246
theorem ok247 : FnOK 309 247:=fm Tryz.f247 ZaC Tryz.func247
noncomputable def cc248 : CC:={ P:=Tryz.prog,toS:=toS,inl:=fun n => List.elem n ([313] : List Nat),dyn:=false,N:=Tryz.f248.ntmps }
theorem ok248 : FnOK 310 248:=ZvR cc248 Tryz.f248 Zhf rfl rfl Tryz.func248 rfl rfl (by kernel_rfl) (by kernel_rfl)
theorem ok249 : FnOK 15 249:=fm Tryz.f249 ZhS Tryz.func249
theorem ok250 : FnOK 86 250:=fm Tryz.f250 Zha Tryz.func250
theorem ok251 : FnOK 90 251:=fm Tryz.f251 Zix Tryz.func251
theorem ok252 : FnOK 50 252:=fm Tryz.f252 Zcc Tryz.func252
theorem ok253 : FnOK 94 253:=fm Tryz.f253 Zfu Tryz.func253
theorem ok255 : FnOK 48 255:=fm Tryz.f255 ZcU Tryz.func255
theorem ok256 : FnOK 205 256:=fm Tryz.f256 ZgZ Tryz.func256
theorem ok257 : FnOK 49 257:=fm Tryz.f257 Ziw Tryz.func257
theorem ok258 : FnOK 207 258:=fm Tryz.f258 ZjR Tryz.func258
theorem ok259 : FnOK 208 259:=fm Tryz.f259 ZdI Tryz.func259
theorem ok260 : FnOK 198 260:=fm Tryz.f260 ZeQ Tryz.func260
theorem ok261 : FnOK 25 261:=fm Tryz.f261 Zdv Tryz.func261
theorem ok262 : FnOK 47 262:=fm Tryz.f262 Zej Tryz.func262
theorem ok263 : FnOK 75 263:=fm Tryz.f263 Zgc Tryz.func263
theorem ok264 : FnOK 81 264:=fm Tryz.f264 Zhc Tryz.func264
theorem ok265 : FnOK 78 265:=fm Tryz.f265 ZhB Tryz.func265
theorem ok266 : FnOK 51 266:=fm Tryz.f266 Zkn Tryz.func266
theorem ok267 : FnOK 52 267:=fm Tryz.f267 Zav Tryz.func267
theorem ok268 : FnOK 53 268:=fm Tryz.f268 ZaR Tryz.func268
theorem ok269 : FnOK 56 269:=fm Tryz.f269 Zhg Tryz.func269
theorem ok273 : FnOK 404 273:=fm Tryz.f273 Zhw Tryz.func273
theorem ok274 : FnOK 202 274:=fm Tryz.f274 Zdw Tryz.func274
theorem ok275 : FnOK 96 275:=fm Tryz.f275 ZcK Tryz.func275
theorem ok276 : FnOK 98 276:=fm Tryz.f276 Zfi Tryz.func276
theorem ok277 : FnOK 106 277:=fm Tryz.f277 Zkp Tryz.func277
theorem ok278 : FnOK 117 278:=fm Tryz.f278 ZhF Tryz.func278
theorem ok279 : FnOK 113 279:=fm Tryz.f279 Zkq Tryz.func279
noncomputable def cc284 : CC:={ P:=Tryz.prog,toS:=toS,inl:=fun n => List.elem n ([] : List Nat),dyn:=true,N:=Tryz.f284.ntmps }
theorem ok284 : FnOK 313 284:=ZvR cc284 Tryz.f284 Zdx rfl rfl Tryz.func284 rfl rfl (by kernel_rfl) (by kernel_rfl)
theorem ok285 : FnOK 315 285:=fm Tryz.f285 Zgu Tryz.func285
theorem ok286 : FnOK 40 286:=fm Tryz.f286 Zjh Tryz.func286
theorem ok287 : FnOK 114 287:=fm Tryz.f287 (ZaL 1) Tryz.func287
theorem ok288 : FnOK 89 288:=fm Tryz.f288 Zhd Tryz.func288
noncomputable def cc289 : CC:={ P:=Tryz.prog,toS:=toS,inl:=fun n => List.elem n ([94] : List Nat),dyn:=false,N:=Tryz.f289.ntmps }
theorem ok289 : FnOK 91 289:=ZvR cc289 Tryz.f289 Zgn rfl rfl Tryz.func289 rfl rfl (by kernel_rfl) (by kernel_rfl)
theorem ok291 : FnOK 87 291:=fm Tryz.f291 Zdf Tryz.func291
theorem ok292 : FnOK 88 292:=fm Tryz.f292 ZbY Tryz.func292
theorem ok293 : FnOK 103 293:=fm Tryz.f293 Zko Tryz.func293
theorem ok294 : FnOK 105 294:=fm Tryz.f294 Ziv Tryz.func294
theorem ok295 : FnOK 209 295:=fm Tryz.f295 ZhA Tryz.func295
theorem ok296 : FnOK 104 296:=fm Tryz.f296 Zkm Tryz.func296
theorem ok297 : FnOK 59 297:=fm Tryz.f297 Zcq Tryz.func297
theorem ok298 : FnOK 77 298:=fm Tryz.f298 Zcb Tryz.func298
theorem ok299 : FnOK 112 299:=fm Tryz.f299 ZfZ Tryz.func299
theorem ok300 : FnOK 107 300:=fm Tryz.f300 ZfF Tryz.func300
theorem ok301 : FnOK 92 301:=fm Tryz.f301 Zgt Tryz.func301
theorem ok302 : FnOK 93 302:=fm Tryz.f302 ZcY Tryz.func302
theorem ok303 : FnOK 97 303:=fm Tryz.f303 Zcr Tryz.func303
theorem ok306 : FnOK 76 306:=fm Tryz.f306 ZjS Tryz.func306
theorem ok307 : FnOK 116 307:=fm Tryz.f307 Zkr Tryz.func307
theorem ok308 : FnOK 108 308:=fm Tryz.f308 ZhH Tryz.func308
noncomputable def cc309 : CC:={ P:=Tryz.prog,toS:=toS,inl:=fun n => List.elem n ([91,120] : List Nat),dyn:=false,N:=Tryz.f309.ntmps }
theorem ok309 : FnOK 109 309:=ZvR cc309 Tryz.f309 Zji rfl rfl Tryz.func309 rfl rfl (by kernel_rfl) (by kernel_rfl)
theorem ok311 : FnOK 121 311:=fm Tryz.f311 Zgb Tryz.func311
theorem ok312 : FnOK 118 312:=fm Tryz.f312 Zga Tryz.func312
theorem ok313 : FnOK 119 313:=fm Tryz.f313 Zbh Tryz.func313
theorem ok314 : FnOK 120 314:=fm Tryz.f314 ZdJ Tryz.func314
theorem ZCE : AllP FnOK lnk:=⟨ok10,ok16,ok19,ok24,ok26,ok32,ok33,ok34,ok40,ok42,ok43,ok45,ok49,ok50,ok51,ok52,ok53,ok54,ok55,ok56,ok57,ok58,ok73,ok81,ok82,ok90,ok98,ok99,ok101,ok102,ok103,ok104,ok105,ok106,ok107,ok108,ok109,ok110,ok115,ok117,ok118,ok119,ok120,ok121,ok122,ok123,ok124,ok125,ok126,ok128,ok136,ok137,ok138,ok139,ok140,ok150,ok151,ok152,ok154,ok155,ok156,ok160,ok161,ok166,ok167,ok168,ok169,ok170,ok171,ok172,ok173,ok174,ok175,ok176,ok183,ok184,ok185,ok186,ok187,ok188,ok189,ok190,ok191,ok192,ok198,ok199,ok200,ok201,ok202,ok203,ok204,ok205,ok206,ok207,ok212,ok213,ok214,ok215,ok216,ok219,ok220,ok221,ok222,ok223,ok224,ok225,ok232,ok233,ok234,ok235,ok236,ok237,ok238,ok239,ok240,ok241,ok245,ok246,ok247,ok248,ok249,ok250,ok251,ok252,ok253,ok255,ok256,ok257,ok258,ok259,ok260,ok261,ok262,ok263,ok264,ok265,ok266,ok267,ok268,ok269,ok273,ok274,ok275,ok276,ok277,ok278,ok279,ok284,ok285,ok286,ok287,ok288,ok289,ok291,ok292,ok293,ok294,ok295,ok296,ok297,ok298,ok299,ok300,ok301,ok302,ok303,ok306,ok307,ok308,ok309,ok311,ok312,ok313,ok314,trivial⟩
theorem ZFh : ProgOK Tryz.prog L0 (tbl 1):=⟨fun f g h => AllP.of ZCE f g h⟩
theorem mixed : Tryz.prog.follows .mixedOrders = true:=by kernel_rfl
end Go.Proofs.YtddmoldiopnifaaGreatDoor
namespace Go.Proofs.YtddmoldiopnifaaGreatDoor
open Go Go.Cv Go.ChangeShapes Go.WideShapes Go.ChangeAt Go.WideMaps Go.WideElems Go.RowKit
theorem own : ownKnob Tryz.prog.godebug = none:=by kernel_rfl
theorem laidOut : laidOutB Tryz.prog = true:=by kernel_rfl
theorem gTab : Tryz.prog.globalNamed "math/bits.deBruijn32tab" = some 1:=by kernel_rfl
theorem tTab : (Tryz.prog.globals[1]?).map (·.type) = some 355:=by kernel_rfl
def laid1 : List (String × DataW Unit):=[("math/bits.deBruijn32tab",Rows.laid_math_bits_deBruijn32tab)]
theorem ZEy (os : Os) (args : Array Value) : laidMetH Tryz.prog laid1 ((World.doorLaid Tryz.prog 400 os).forCall (fun _ _ => 0) ⟨#[],args,[]⟩).memory :=
 laidMetH_of_parts3 (fuel:=8) (laidMet_of_run' 8 (by kernel_rfl) (by kernel_rfl)) (by kernel_rfl) (by kernel_rfl)
theorem ZEZ {W : World} (h : laidMetH Tryz.prog laid1 W) : Gok (glb 1) ⟨L0,W,fun r => r < W.heap.size,noι⟩:=by
 rw [MakeChecks.laidMetH_plain _ _ _ (by kernel_rfl)] at h
 obtain ⟨ps,⟨g0,t0,cs0,f0,p0,q0,hg0,ht0,hv0,hd0,_,_⟩,_,_⟩:=h
 obtain rfl:=Option.some.inj (gTab.symm.trans hg0)
 obtain rfl:=Option.some.inj (tTab.symm.trans ht0)
 have hc:=ZEn (l:=ntz32) (e:=5) (show Tryz.prog.underlying 355 = some (.array ntz32.length 5) by kernel_rfl) (show Tryz.prog.underlying 5 = some (.int .u8) by kernel_rfl) (by kernel_rfl) hd0
 exact ZCZ (fun j d hj => by rw [World.var?_cell hg0 hv0 j]; exact hc j d hj) (by decide)
theorem and2 {a b : Bool} (h : a = true) (k : b = true) : (a && b) = true:=by rw [h,k]; rfl
theorem jMaps : mapsRowed Tryz.prog = true:=by kernel_rfl
theorem jHeard : Tryz.prog.stopsHeard = true:=by kernel_rfl
theorem jEnter : Tryz.prog.mayEnter = true:=by kernel_rfl
end Go.Proofs.YtddmoldiopnifaaGreatDoor
