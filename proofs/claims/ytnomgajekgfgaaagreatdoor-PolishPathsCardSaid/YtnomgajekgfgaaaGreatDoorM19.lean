/-
 A part of the proof of the statements of this seat (texts that the law's own text leans on): no condition.
-/
import Derived.Test.YtnomgajekgfgaaaGreatDoorM4
import Derived.Test.YtnomgajekgfgaaaGreatDoorM8
import Derived.ProofKit
import Derived.LaidMore
import Derived.OpenShut
import Derived.Deep.Slices
import Derived.Lib.SmallJoins
import Derived.Carry
import Derived.Below
import Derived.ChangeSame
import Derived.Test.YtnomgajekgfgaaaGreatDoorM16
import Derived.Deep.SlicePairs
import Derived.Test.YtnomgajekgfgaaaGreatDoorM9
import Derived.Test.YtnomgajekgfgaaaGreatDoorM7
import Derived.KernelRfl
import Derived.Test.YtnomgajekgfgaaaGreatDoorProg
import Derived.Test.YtnomgajekgfgaaaGreatDoorRows
import Derived.Test.YtnomgajekgfgaaaGreatDoorChecked
import Derived.Stop.Joined
import Derived.SevenTiedAt
set_option linter.unusedVariables false
set_option linter.unusedSimpArgs false
namespace Go.Cv
open Go Go.RowKit Go.WideShapes Go.ChangeShapes Go.WideElems Go.Deep Go.Joins
section
variable {H : Type} {enc : TypeId × Value→H} {P : Program}
theorem ZoA (hl : laidOutB P = true) {W W' : World} {sp : Nat→Bool} (hb : Below W.heap.size W W') :
  ∀ {ts : List TypeId} {vs : List Value} {ds : List (DataW H)} {ps : List MemPlace},(∀ t ∈ ts,P.readableRec t = true∧t < P.types.size) →
  DataW.TrodAll enc P W 0 (fun _ => true) true ts vs ds ps→(∀ p ∈ ps,p.block < W.heap.size∧sp p.block = true)→DataW.TrodAll enc P W' 0 sp true ts vs ds ps
 | [],vs,ds,ps,_,h,_ => by
  obtain ⟨rfl,rfl,rfl⟩:=trodAll_nil h
  rfl
 | t :: ts,vs,ds,ps,ht,h,hp => by
  obtain ⟨v,vs1,d,ds1,p,q,rfl,rfl,rfl,h1,h2⟩:=trodAll_cons h
  refine ⟨p,q,?_,?_,rfl⟩
  ·exact Trod_stays hl (ht t (List.mem_cons_self ..)).1 (ht t (List.mem_cons_self ..)).2 h1 (fun x hx => hb.same (hp x (List.mem_append_left _ hx)).1) (fun x hx => (hp x (List.mem_append_left _ hx)).2)
  ·exact ZoA hl hb (fun t' h' => ht t' (List.mem_cons_of_mem _ h')) h2 (fun x hx => hp x (List.mem_append_right _ hx))
theorem ZJa {f : Func} {s : ChangeSpec} {apart fresh handsOn again : Bool} {W W' : World} {args : Array Value} {ds gs : List (DataW H)} {before : List MemPlace} {tb : TypeId}
  (hl : laidOutB P = true) (hp : f.params.toList.all (fun t => P.readableRec t && decide (t < P.types.size)) = true) (hr : f.resultTypes = #[tb]) (ht : P.underlying tb = some .bool) (hv : s.vars = [])
  (hs : s.fn H (ds ++ gs) = { results:=[.lit (.bool true)],args:=ds })
  (hW : DataW.Whole enc P f.params.toList s.vars apart W args.toList ds gs before) (hb : Below W.heap.size W W') :
  s.post enc P f apart fresh handsOn again W args (.bool true) W':=by
 have hlt : ∀ p ∈ before,p.block < W.heap.size:=fun p hp => hW.lt p hp
 have hts : ∀ t ∈ f.params.toList,P.readableRec t = true∧t < P.types.size:=fun t h => by
  have:=List.all_eq_true.1 hp t h
  simpa using this
 have hres : ∀ (b : Nat) (sp : Nat→Bool) (hd : Bool),DataW.TrodAll enc P W' b sp hd f.resultTypes.toList ((Value.bool true).resultList f.resultTypes.size) (s.fn H (ds ++ gs)).results []:=fun b sp hd => by
  rw [hs,hr]; exact trodAll_mk1 (shut_bool ht true)
 have hW0:=hW
 obtain ⟨p,q,hA,hV,hpq,hz,hn⟩:=hW
 rw [hv] at hV
 obtain ⟨rfl,rfl⟩:=trodVars_none hV
 rw [List.append_nil] at hpq
 subst hpq
 have hargs : ∀ sp : Nat→Bool,(∀ x ∈ before,sp x.block = true)→DataW.TrodAll enc P W' 0 sp true f.params.toList args.toList (s.fn H (ds ++ [])).args before:=fun sp h => by
  rw [hs]; exact ZoA hl hb hts hA (fun x hx => ⟨hlt x hx,h x hx⟩)
 have hvars : ∀ sp : Nat→Bool,DataW.TrodVars enc P W' sp s.vars (s.fn H (ds ++ [])).vars []:=fun sp => by rw [hs,hv]; rfl
 have hold : ∀ p ∈ before,(fun b => decide (b < W.heap.size)) p.block = true:=fun p hp => by simpa using hlt p hp
 refine ⟨ds,[],before,[],before,[],hW0,hres _ _ _,hargs _ hold,hvars _,World.keptBut_mono (fun p hp => ⟨hp,?_⟩) (hb.frame (· ∈ before)),fun _ => ?_⟩
 ·exact Or.inr (Or.inl hp)
 ·refine ⟨ok_one hr rfl (okWide_bool_mk ht true),_,_,([] ++ before) ++ [],⟨[] ++ before,[],trodAll_append (hargs _ (fun _ _ => rfl)) (hres _ _ _),hvars _,rfl,?_,?_⟩,?_⟩
  ·intro b off hp
   have hin : MemPlace.cell b off ∈ before:=by simpa using hp
   rw [hb.frozen (hlt _ hin)]
   exact hz b off hin
  ·intro ha
   simpa using hn ha
  ·intro p hp _
   simpa using hp
theorem ZAj {w : World} {a : Addr} {v : Value} (h : w.cell? (a.add 0) = some v) : a = ⟨a.block,a.off,none⟩:=by
 obtain ⟨b,o,s⟩:=a
 cases s with
 | none => rfl
 | some s =>
  exfalso
  unfold World.cell? Addr.add at h
  simp only [if_true] at h
  split at h
  ·simp at h
  ·cases h
end
theorem ZJO {P : Program} {L : LK} {G : Nat→Option (List AV)} {T : Tbl} (hm : P.follows .mixedOrders = true) (hP : ProgOK P L T) {f : Nat} {g : FuncId} {args : List AV} (hLf : L f = some g)
  (hr : run G T f args = some (.bool true)) {W : World} (hG : Gok G ⟨L,W,fun r => r < W.heap.size,noι⟩) {us : Array Value} (hu : RelL ⟨L,W,fun r => r < W.heap.size,noι⟩ args us.toList)
  {Q : Value→World→Prop} (hQ : ∀ W',Go.RowKit.Below W.heap.size W W'→Q (.bool true) W') (hy : L.y = none:=by rfl) :
  Calls P g us W fun e W' => ∃ v,e = .returned v∧Q v W':=by
 have h:=ZzX hm hP hy hLf hr W (fun r => r < W.heap.size) (fun _ h => h) hG hu
 refine h.mono ?_
 rintro e W' ⟨u,rfl,hb,hrel⟩
 simp only [Rel] at hrel
 subst hrel
 exact ⟨_,rfl,hQ W' hb⟩
theorem ZGZ {L : LK} {W : World} {g : Nat} {l : List Nat} (h : ∀ (j d : Nat),l[j]? = some d→W.cell? ⟨g,j,none⟩ = some (.int .u8 (d : Int))) (hl : 0 < l.length) (hy : L.y = none:=by rfl) :
  Gok (fun n => if n = g then some (l.map fun (d : Nat) => .int .u8 (d : Int)) else none) ⟨L,W,fun r => r < W.heap.size,noι⟩:=by
 refine ⟨fun g' cs hg => ?_,fun b e => by rw [show (⟨L,W,fun r => r < W.heap.size,noι⟩ : Sc).L = L from rfl,hy] at e; cases e⟩
 simp only at hg
 split at hg
 ·next he =>
  subst he
  cases hg
  constructor
  ·have h0:=h 0 l[0] (List.getElem?_eq_getElem hl)
   show g' < W.heap.size
   unfold World.cell? at h0
   split at h0
   ·next c _ _ hh => exact Zha hh
   ·cases h0
  ·rw [Zam]
   intro j v hj
   rw [List.getElem?_map] at hj
   cases hd : l[j]? with
   | none => rw [hd] at hj; cases hj
   | some d =>
    rw [hd] at hj
    simp only [Option.map_some,Option.some.injEq] at hj
    subst hj
    rw [Nat.zero_add]
    exact ⟨_,h j d hd,rfl,by simp only [Rel]⟩
 ·cases hg
section
variable {H : Type} {enc : TypeId × Value→H} {P : Program}
theorem ZIN {w : World} {base : Nat} {sp : Nat→Bool} {held : Bool} {t e : TypeId} {fuel : Nat} {cs : Array Value} {l : List Nat} {ps : List MemPlace}
  (ht : P.underlying t = some (.array l.length e)) (he : P.underlying e = some (.int .u8)) (hc : P.cellsOf e = 1)
  (h : DataW.trod enc P w base sp held fuel t cs.toList = some (.agg (l.map fun (d : Nat) => .lit (.int .u8 (d : Int))),ps)) : ∀ (j d : Nat),l[j]? = some d→cs[j]? = some (.int .u8 (d : Int)):=by
 obtain ⟨xs,m,rfl,hx,hlen,hn,hel⟩:=DataW.trod_array ht h
 intro j d hj
 have hjl : j < l.length:=(List.getElem?_eq_some_iff.1 hj).1
 have h1:=hel j hjl
 simp only [Prod.mk.injEq,DataW.agg.injEq] at hx
 have hxj : xs[j]? = some xs[j]:=List.getElem?_eq_getElem (by omega)
 rw [hxj,hc,Nat.mul_one] at h1
 obtain ⟨k,e1,e2,_⟩:=DataW.trod_int he h1
 have h3 : (l.map fun (d : Nat) => (DataW.lit (.int .u8 (d : Int)) : DataW H))[j]? = (xs.map (·.1))[j]?:=by rw [hx.1]
 rw [List.getElem?_map,List.getElem?_map,hj,hxj] at h3
 simp only [Option.map_some,Option.some.injEq,e2] at h3
 simp only [DataW.lit.injEq,Lit.int.injEq,true_and] at h3
 subst h3
 have h4 : (cs.toList.drop j).take 1 = [.int .u8 (d : Int)]:=e1
 have h5 : cs.toList[j]? = some (.int .u8 (d : Int)):=by
  have : ((cs.toList.drop j).take 1)[0]? = some (.int .u8 (d : Int)):=by rw [h4]; rfl
  rw [List.getElem?_take] at this
  simpa using this
 simpa using h5
end
end Go.Cv
namespace Go.Cv
open Go Go.RowKit Go.WideShapes Go.ChangeShapes Go.WideElems Go.Deep Go.Joins
section
variable {H : Type} {enc : TypeId × Value→H} {P : Program}
theorem Ztt {a : Int} (h : (Lit.int .u64 a).wf = true) : ∃ k : Nat,k < 18446744073709551616∧a = (k : Int):=by
 have h2 : (decide ((0 : Int)≤a) && decide (a≤18446744073709551615)) = true:=h
 simp only [Bool.and_eq_true,decide_eq_true_eq] at h2
 exact ⟨a.toNat,by omega,by omega⟩
theorem ZKw {w : World} {S : Sc} {r : Reach} {b0 base : Nat} {held : Bool} {t : TypeId} {f0 f1 : Field} {v : Value} {d : DataW H} {p : List MemPlace}
  (hs : P.underlying t = some (.struct #[f0,f1])) (hone : oneCellFields P #[f0,f1] = true) (hC : P.cellsOf t = 2) (h0 : P.underlying f0.type = some (.int .u64)) (h1 : P.underlying f1.type = some (.int .u64))
  (hv : Value.okWide P w r b0 t v) (h : DataW.Trod enc P w base (fun _ => true) held t v d p) :
  ∃ a b : Nat,a < 18446744073709551616∧b < 18446744073709551616∧Rel S (.agg [.int .u64 (a : Int),.int .u64 (b : Int)]) v:=by
 obtain ⟨v0,v1,y0,y1,n,rfl,_,_,k0,k1⟩:=open_agg2 hs hone hC hv h
 obtain ⟨x,hx,_,hw0⟩:=DataW.trod_int h0 k0
 obtain rfl : v0 = .int .u64 x:=by simpa using hx
 obtain ⟨y,hy,_,hw1⟩:=DataW.trod_int h1 k1
 obtain rfl : v1 = .int .u64 y:=by simpa using hy
 obtain ⟨a,a1,rfl⟩:=Ztt hw0
 obtain ⟨b,b1,rfl⟩:=Ztt hw1
 refine ⟨a,b,a1,b1,?_⟩
 simp only [Rel,RelL]
 exact ⟨_,rfl,.int .u64 a,[.int .u64 b],rfl,rfl,.int .u64 b,[],rfl,rfl,rfl⟩
end
end Go.Cv
namespace Go.Cv
open Go Go.RowKit Go.WideShapes Go.ChangeShapes Go.WideElems Go.Deep Go.Joins
section
variable {H : Type} {enc : TypeId × Value→H} {P : Program}
end
end Go.Cv
namespace Go.Cv
open Go Go.RowKit Go.WideShapes Go.ChangeShapes Go.WideElems Go.Deep Go.Joins
section
variable {H : Type} {enc : TypeId × Value→H} {P : Program}
theorem ZKg {w : World} {S : Sc} (hw : S.w = w) (hro : ∀ r,r < w.heap.size→S.ro r) {base : Nat} {held : Bool} {t e : TypeId} {f0 f1 : Field} {r : Reach} {b0 : Nat} {v : Value} {d : DataW H} {p : List MemPlace}
  (ht : P.underlying t = some (.slice e)) (hs : P.underlying e = some (.struct #[f0,f1])) (hone : oneCellFields P #[f0,f1] = true) (hc : P.cellsOf e = 2) (h0 : P.underlying f0.type = some (.int .u64)) (h1 : P.underlying f1.type = some (.int .u64))
  (hv : Value.okWide P w r b0 t v) (h : DataW.Trod enc P w base (fun _ => true) held t v d p) :
  ∃ z l,(∀ q ∈ l,q.1 < 18446744073709551616∧q.2 < 18446744073709551616)∧Rel S (ZL z l) v∧(l = []∨∃ es sp,d = .slice es sp∧es.length = l.length):=by
 obtain ⟨o0,c0⟩:=hone_of hone 0 f0 rfl
 obtain ⟨o1,c1⟩:=hone_of hone 1 f1 rfl
 obtain ⟨fuel,h⟩:=h
 obtain ⟨sa,sl,sc,rfl⟩:=okWide_slice ht hv
 have hcell : (Value.slice sa sl sc).cells.toList = [.slice sa sl sc]:=rfl
 rw [hcell] at h
 rcases open_slice_pairs ht hs hc o0 o1 c0 c1 h with ⟨hcs,_⟩ | ⟨a,len,cap,m,n,V0,V1,D0,D1,P0,P1,hcs,hb,hl,hm,hmm,hxx,hx⟩
 ·obtain ⟨rfl,rfl,rfl⟩ : sa = none∧sl = 0∧sc = 0:=by simpa using hcs
  refine ⟨true,[],by simp,?_,Or.inl rfl⟩
  show Rel S .nil _
  simp only [Rel]
 ·obtain ⟨rfl,rfl,rfl⟩ : sa = some a∧sl = len∧sc = cap:=by simpa using hcs
  simp only [if_true] at hmm
  subst hmm
  have word : ∀ {q : Value} {t' : TypeId} {x : DataW H × List MemPlace},P.underlying t' = some (.int .u64)→DataW.trod enc P w base (fun _ => true) held n t' [q] = some x→∃ k : Nat,k < 18446744073709551616∧q = .int .u64 (k : Int):=fun {q t' x} hu hq => by
   obtain ⟨n',e1,_,e3⟩:=DataW.trod_int hu hq
   obtain ⟨k,k1,rfl⟩:=Ztt e3
   exact ⟨k,k1,by simpa using e1⟩
  have hV : ∀ i,i < m→∃ q : Nat × Nat,(q.1 < 18446744073709551616∧q.2 < 18446744073709551616)∧V0 i = .int .u64 (q.1 : Int)∧V1 i = .int .u64 (q.2 : Int):=fun i hi => by
   obtain ⟨_,_,x3,x4⟩:=hx i hi
   obtain ⟨k,k1,k2⟩:=word h0 x3
   obtain ⟨l,l1,l2⟩:=word h1 x4
   exact ⟨(k,l),⟨k1,l1⟩,k2,l2⟩
  obtain ⟨q,hq⟩:=choose_lt hV
  have hlen : ((List.range sl).map q).length = sl:=by simp
  obtain ⟨hd,_⟩:=Prod.mk.inj hxx
  refine ⟨false,(List.range sl).map q,?_,?_,Or.inr ⟨_,_,hd,by simp⟩⟩
  ·intro y hy
   obtain ⟨i,hi,rfl⟩:=List.mem_map.1 hy
   exact (hq i (by have:=List.mem_range.1 hi; omega)).1
  ·unfold ZL
   rw [if_neg (fun x => by cases x.1),hlen]
   simp only [Rel]
   refine ⟨some a,m,rfl,hl,?_⟩
   by_cases hl0 : sl = 0
   ·left; subst hl0; rfl
   ·right
    have c0:=(hx 0 (by omega)).1
    rw [Nat.zero_mul] at c0
    have ha:=ZAj c0
    refine ⟨a.block,a.off,by rw [← ha],hro _ ?_,?_⟩
    ·unfold World.cell? at c0
     split at c0
     ·next c _ _ hh => 
      have hab : (a.add 0).block = a.block:=by unfold Addr.add; rfl
      rw [hab] at hh
      exact Zha hh
     ·cases c0
    ·rw [Zam]
     intro j u hj
     rw [Zsf,List.getElem?_map] at hj
     rcases Nat.lt_or_ge (j / 2) sl with hjl | hjl
     ·rw [List.getElem?_range hjl] at hj
      simp only [Option.map_some,Option.some.injEq] at hj
      obtain ⟨_,g1,g2⟩:=hq (j / 2) (by omega)
      obtain ⟨x1,x2,_,_⟩:=hx (j / 2) (by omega)
      rw [ha,ZeR] at x1 x2
      subst hj
      by_cases ev : j % 2 = 0
      ·rw [show a.off + j / 2 * 2 = a.off + j by omega,g1] at x1
       refine ⟨_,by rw [← hw] at x1; exact x1,rfl,?_⟩
       rw [if_pos ev]
       simp only [Rel]
      ·rw [show a.off + (j / 2 * 2 + 1) = a.off + j by omega,g2] at x2
       refine ⟨_,by rw [← hw] at x2; exact x2,rfl,?_⟩
       rw [if_neg ev]
       simp only [Rel]
     ·rw [List.getElem?_eq_none (by simpa using hjl)] at hj
      cases hj
end
end Go.Cv
namespace Go.Cv
def glb (g : Nat) : Nat→Option (List AV):=fun n => if n = g then some (ntz32.map fun (d : Nat) => .int .u8 (d : Int)) else none
theorem glob (g : Nat) : Glob (glb g) g:=if_pos rfl
theorem al (g : Nat) : Al (glb g) (tbl g) g:=⟨hasA g,hasB g,hasC g,hasD g,hasE g,hasF g,hasG g,hasH g,hasJ g,glob g⟩
end Go.Cv
set_option maxRecDepth 100000
namespace Go.Proofs.YtnomgajekgfgaaaGreatDoor
open Go Go.Cv
def tosL : List Nat:=[0,0,0,326,0,354,355,356,357,358,250,229,346,359,342,351,384,385,344,386,387,150,237,69,236,227,256,251,222,219,381,30,375,376,252,262,377,378,379,380,26,382,165,189,395,396,27,185,397,258,394,264,155,16,32,70,151,67,154,235,19,273,274,20,275,276,230,157,231,232,233,38,12,234,31,62,63,196,169,268,269,270,271,272,285,164,393,193,58,60,7,176,178,179,180,181,182,183,401,402,403,149,353,280,281,65,220,156,64,102,45,46,33,72,99,100,101,158,44,42,297,298,299,300,301,17,73,34,35,10,36,37,14,204,186,18,289,290,291,292,293,294,278,295,279,296,54,55,286,177,399,194,400,95,201,21,22,23,24,8,192,57,74,197,174,405,263,406,383,303,172,83,84,85,82,80,68,311,306,41,66,71,39,191,43,307,308,309,302,310,15,195,184,86,90,50,94,304,404,202,200,96,48,205,115,47,49,51,52,53,56,25,98,106,117,113,190,257,166,173,188,111,79,75,81,78,313,315,40,203,198,114,89,91,312,87,88,92,93,97,59,199,277,110,77,112,107,76,207,208,206,104,108,109,103,105,209,118,119,120,116,121,0,0,0,0,0,0,0,0,0,0,0,0,0,0,0,0,0,0,0,0]
def lnk : List (Nat × Nat):=[(326,3),(354,5),(355,6),(356,7),(357,8),(358,9),(250,10),(229,11),(346,12),(359,13),(342,14),(351,15),(384,16),(385,17),(344,18),(386,19),(387,20),(150,21),(237,22),(69,23),(236,24),(227,25),(256,26),(251,27),(222,28),(219,29),(381,30),(30,31),(375,32),(376,33),(252,34),(262,35),(377,36),(378,37),(379,38),(380,39),(26,40),(382,41),(165,42),(189,43),(395,44),(396,45),(27,46),(185,47),(397,48),(258,49),(394,50),(264,51),(155,52),(16,53),(32,54),(70,55),(151,56),(67,57),(154,58),(235,59),(19,60),(273,61),(274,62),(20,63),(275,64),(276,65),(230,66),(157,67),(231,68),(232,69),(233,70),(38,71),(12,72),(234,73),(31,74),(62,75),(63,76),(196,77),(169,78),(268,79),(269,80),(270,81),(271,82),(272,83),(285,84),(164,85),(393,86),(193,87),(58,88),(60,89),(7,90),(176,91),(178,92),(179,93),(180,94),(181,95),(182,96),(183,97),(401,98),(402,99),(403,100),(149,101),(353,102),(280,103),(281,104),(65,105),(220,106),(156,107),(64,108),(102,109),(45,110),(46,111),(33,112),(72,113),(99,114),(100,115),(101,116),(158,117),(44,118),(42,119),(297,120),(298,121),(299,122),(300,123),(301,124),(17,125),(73,126),(34,127),(35,128),(10,129),(36,130),(37,131),(14,132),(204,133),(186,134),(18,135),(289,136),(290,137),(291,138),(292,139),(293,140),(294,141),(278,142),(295,143),(279,144),(296,145),(54,146),(55,147),(286,148),(177,149),(399,150),(194,151),(400,152),(95,153),(201,154),(21,155),(22,156),(23,157),(24,158),(8,159),(192,160),(57,161),(74,162),(197,163),(174,164),(405,165),(263,166),(406,167),(383,168),(303,169),(172,170),(83,171),(84,172),(85,173),(82,174),(80,175),(68,176),(311,177),(306,178),(41,179),(66,180),(71,181),(39,182),(191,183),(43,184),(307,185),(308,186),(309,187),(302,188),(310,189),(15,190),(195,191),(184,192),(86,193),(90,194),(50,195),(94,196),(304,197),(404,198),(202,199),(200,200),(96,201),(48,202),(205,203),(115,204),(47,205),(49,206),(51,207),(52,208),(53,209),(56,210),(25,211),(98,212),(106,213),(117,214),(113,215),(190,216),(257,217),(166,218),(173,219),(188,220),(111,221),(79,222),(75,223),(81,224),(78,225),(313,226),(315,227),(40,228),(203,229),(198,230),(114,231),(89,232),(91,233),(312,234),(87,235),(88,236),(92,237),(93,238),(97,239),(59,240),(199,241),(277,242),(110,243),(77,244),(112,245),(107,246),(76,247),(207,248),(208,249),(206,250),(104,251),(108,252),(109,253),(103,254),(105,255),(209,256),(118,257),(119,258),(120,259),(116,260),(121,261)]
def toS (g : FuncId) : Option Nat:=match tosL.getD g 0 with | 0 => none | n + 1 => some (n + 1)
def lnkF (l : List (Nat × Nat)) (f : Nat) : Option FuncId:=match l with | [] => none | p :: r => if p.1 = f then some p.2 else lnkF r f
def L0f (f : Nat) : Option FuncId:=lnkF lnk f
def L0 : LK:=⟨L0f,none⟩
def AllP (Q : Nat→Nat→Prop) : List (Nat × Nat)→Prop | [] => True | p :: l => Q p.1 p.2∧AllP Q l
theorem AllP.of {Q : Nat→Nat→Prop} : ∀ {l : List (Nat × Nat)},AllP Q l→∀ f g,lnkF l f = some g→Q f g
 | [],_,f,g,h => by cases h
 | p :: l,⟨h1,h2⟩,f,g,h => by
  unfold lnkF at h
  by_cases he : p.1 = f
  ·rw [if_pos he] at h; cases h; subst he; exact h1
  ·rw [if_neg he] at h; exact AllP.of h2 f g h
def bodyB (P : Program) (p : Nat × Nat) : Bool:=match P.funcs[p.2]? with | some fn => (fn.name != "runtime.NumGoroutine") | none => false
theorem bodies : lnk.all (bodyB Tryz.prog) = true:=by kernel_rfl
theorem toB : (List.range tosL.length).all (fun g => match toS g with | some f => (L0 f == some g) | none => true) = true:=by kernel_rfl
theorem Zzo : ∀ (l : List (Nat × Nat)) (f g : Nat),lnkF l f = some g→(f,g) ∈ l
 | [],_,_,h => by cases h
 | p :: l,f,g,h => by
  unfold lnkF at h
  by_cases he : p.1 = f
  ·rw [if_pos he] at h; cases h; subst he; exact List.mem_cons_self ..
  ·rw [if_neg he] at h; exact List.mem_cons_of_mem _ (Zzo l f g h)
theorem ZES (C : CC) (hP : C.P = Tryz.prog) (hS : C.toS = toS) : Link C L0:=by
 constructor
 ·intro g f h
  rw [hS] at h
  have hb:=List.all_eq_true.1 toB
  have hg : g < tosL.length:=by
   rcases Nat.lt_or_ge g tosL.length with x | x
   ·exact x
   ·exfalso; unfold toS at h; rw [List.getD_eq_getElem?_getD,List.getElem?_eq_none x] at h; cases h
  have:=hb g (List.mem_range.2 hg)
  rw [h] at this
  simpa using this
 ·intro f g h
  have:=List.all_eq_true.1 bodies _ (Zzo _ _ _ h)
  unfold bodyB at this
  rw [hP]
  cases hf : Tryz.prog.funcs[g]? with
  | none => simp [hf] at this
  | some fn => simp [hf] at this; exact ⟨fn,rfl,this⟩
def FnOK (f g : Nat) : Prop:=FnB Tryz.prog L0 (tbl 0) f g∨FnP Tryz.prog (tbl 0) f g
theorem ZtW {f g : Nat} (C : CC) (fn : Func) (fi : IFn) (h1 : C.P = Tryz.prog) (h2 : C.toS = toS) (h3 : Tryz.prog.funcs[g]? = some fn) (h4 : C.N = fn.ntmps) (h5 : tbl 0 f = some fi) (h6 : fn.body.bind (compC C) = some (erase fi.body)) (h7 : mapO (compRes Tryz.prog) fn.results.toList = some fi.res) : FnOK f g:=by
 cases hb : fn.body with
 | none => rw [hb] at h6; cases h6
 | some c => rw [hb] at h6; exact .inl ⟨C,fn,c,fi,h1,ZES C h1 h2,h3,Nat.le_of_eq h4,hb,h5,h6,h7⟩
noncomputable def C0 (n : Nat) : CC:={ P:=Tryz.prog,toS:=toS,inl:=fun n => List.elem n ([] : List Nat),dyn:=false,N:=n }
theorem fm {f g : Nat} (fn : Func) (fi : IFn) (h3 : Tryz.prog.funcs[g]? = some fn) (h5 : tbl 0 f = some fi:=by rfl) (h6 : fn.body.bind (compC (C0 fn.ntmps)) = some (erase fi.body):=by kernel_rfl) (h7 : mapO (compRes Tryz.prog) fn.results.toList = some fi.res:=by kernel_rfl) : FnOK f g:=ZtW (C0 fn.ntmps) fn fi rfl rfl h3 rfl h5 h6 h7
noncomputable def cc3 : CC:={ P:=Tryz.prog,toS:=toS,inl:=fun n => List.elem n ([354] : List Nat),dyn:=false,N:=Tryz.f3.ntmps }
theorem ok3 : FnOK 326 3:=ZtW cc3 Tryz.f3 ZaU rfl rfl Tryz.func3 rfl rfl (by kernel_rfl) (by kernel_rfl)
noncomputable def cc5 : CC:={ P:=Tryz.prog,toS:=toS,inl:=fun n => List.elem n ([385,351] : List Nat),dyn:=false,N:=Tryz.f5.ntmps }
theorem ok5 : FnOK 354 5:=ZtW cc5 Tryz.f5 Zaq rfl rfl Tryz.func5 rfl rfl (by kernel_rfl) (by kernel_rfl)
theorem ok6 : FnOK 355 6:=fm Tryz.f6 Zcw Tryz.func6
theorem ok7 : FnOK 356 7:=fm Tryz.f7 ZiD Tryz.func7
theorem ok8 : FnOK 357 8:=fm Tryz.f8 Zho Tryz.func8
theorem ok9 : FnOK 358 9:=fm Tryz.f9 Zgr Tryz.func9
theorem ok10 : FnOK 250 10:=fm Tryz.f10 ZcN Tryz.func10
theorem ok11 : FnOK 229 11:=fm Tryz.f11 ZcD Tryz.func11
theorem ok12 : FnOK 346 12:=fm Tryz.f12 Zdq Tryz.func12
theorem ok13 : FnOK 359 13:=fm Tryz.f13 Zec Tryz.func13
theorem ok14 : FnOK 342 14:=fm Tryz.f14 Zeu Tryz.func14
theorem ok15 : FnOK 351 15:=fm Tryz.f15 Zdj Tryz.func15
theorem ok16 : FnOK 384 16:=fm Tryz.f16 Zcb Tryz.func16
theorem ok17 : FnOK 385 17:=fm Tryz.f17 ZcX Tryz.func17
theorem ok18 : FnOK 344 18:=fm Tryz.f18 Zba Tryz.func18
theorem ok19 : FnOK 386 19:=fm Tryz.f19 ZiC Tryz.func19
theorem ok20 : FnOK 387 20:=fm Tryz.f20 Zds Tryz.func20
theorem ok21 : FnOK 150 21:=fm Tryz.f21 Zeb Tryz.func21
theorem ok22 : FnOK 237 22:=fm Tryz.f22 ZaZ Tryz.func22
theorem ok23 : FnOK 69 23:=fm Tryz.f23 ZkE Tryz.func23
theorem ok24 : FnOK 236 24:=fm Tryz.f24 Zgq Tryz.func24
theorem ok25 : FnOK 227 25:=fm Tryz.f25 ZfX Tryz.func25
theorem ok26 : FnOK 256 26:=fm Tryz.f26 Zim Tryz.func26
theorem ok27 : FnOK 251 27:=fm Tryz.f27 ZkO Tryz.func27
theorem ok28 : FnOK 222 28:=fm Tryz.f28 ZcA Tryz.func28
theorem ok29 : FnOK 219 29:=fm Tryz.f29 ZaM Tryz.func29
theorem ok30 : FnOK 381 30:=fm Tryz.f30 ZiY Tryz.func30
theorem ok31 : FnOK 30 31:=fm Tryz.f31 ZkI Tryz.func31
theorem ok32 : FnOK 375 32:=fm Tryz.f32 ZbT Tryz.func32
theorem ok33 : FnOK 376 33:=fm Tryz.f33 Zhx Tryz.func33
theorem ok34 : FnOK 252 34:=fm Tryz.f34 ZhX Tryz.func34
theorem ok35 : FnOK 262 35:=fm Tryz.f35 Zkr Tryz.func35
theorem ok36 : FnOK 377 36:=fm Tryz.f36 Zhy Tryz.func36
theorem ok37 : FnOK 378 37:=fm Tryz.f37 Zhz Tryz.func37
theorem ok38 : FnOK 379 38:=fm Tryz.f38 Zdk Tryz.func38
theorem ok39 : FnOK 380 39:=fm Tryz.f39 Zcy Tryz.func39
theorem ok40 : FnOK 26 40:=fm Tryz.f40 Zmr Tryz.func40
theorem ok41 : FnOK 382 41:=fm Tryz.f41 Zge Tryz.func41
theorem ok42 : FnOK 165 42:=fm Tryz.f42 ZeK Tryz.func42
theorem ok43 : FnOK 189 43:=fm Tryz.f43 ZaR Tryz.func43
noncomputable def cc44 : CC:={ P:=Tryz.prog,toS:=toS,inl:=fun n => List.elem n ([] : List Nat),dyn:=true,N:=Tryz.f44.ntmps }
theorem ok44 : FnOK 395 44:=ZtW cc44 Tryz.f44 Zcc rfl rfl Tryz.func44 rfl rfl (by kernel_rfl) (by kernel_rfl)
theorem ok45 : FnOK 396 45:=fm Tryz.f45 Zbl Tryz.func45
theorem ok46 : FnOK 27 46:=fm Tryz.f46 Zmo Tryz.func46
theorem ok47 : FnOK 185 47:=fm Tryz.f47 Zcs Tryz.func47
theorem ok48 : FnOK 397 48:=fm Tryz.f48 ZdG Tryz.func48
theorem ok49 : FnOK 258 49:=fm Tryz.f49 Zil Tryz.func49
theorem ok50 : FnOK 394 50:=fm Tryz.f50 ZcB Tryz.func50
theorem ok51 : FnOK 264 51:=fm Tryz.f51 ZkP Tryz.func51
theorem ok52 : FnOK 155 52:=fm Tryz.f52 ZhB Tryz.func52
theorem ok53 : FnOK 16 53:=fm Tryz.f53 ZeG Tryz.func53
theorem ok54 : FnOK 32 54:=fm Tryz.f54 Zih Tryz.func54
theorem ok55 : FnOK 70 55:=fm Tryz.f55 ZkG Tryz.func55
theorem ok56 : FnOK 151 56:=fm Tryz.f56 Zfj Tryz.func56
theorem ok57 : FnOK 67 57:=fm Tryz.f57 ZaV Tryz.func57
theorem ok58 : FnOK 154 58:=fm Tryz.f58 ZkF Tryz.func58
theorem ok59 : FnOK 235 59:=fm Tryz.f59 ZeH Tryz.func59
theorem ok60 : FnOK 19 60:=fm Tryz.f60 ZgL Tryz.func60
theorem ok61 : FnOK 273 61:=fm Tryz.f61 ZcC Tryz.func61
theorem ok62 : FnOK 274 62:=fm Tryz.f62 Zfp Tryz.func62
theorem ok63 : FnOK 20 63:=fm Tryz.f63 ZfV Tryz.func63
theorem ok64 : FnOK 275 64:=fm Tryz.f64 Zex Tryz.func64
theorem ok65 : FnOK 276 65:=fm Tryz.f65 Zdp Tryz.func65
theorem ok66 : FnOK 230 66:=fm Tryz.f66 ZkM Tryz.func66
theorem ok67 : FnOK 157 67:=fm Tryz.f67 ZgJ Tryz.func67
theorem ok68 : FnOK 231 68:=fm Tryz.f68 ZkL Tryz.func68
theorem ok69 : FnOK 232 69:=fm Tryz.f69 ZiW Tryz.func69
theorem ok70 : FnOK 233 70:=fm Tryz.f70 ZkN Tryz.func70
theorem ok71 : FnOK 38 71:=fm Tryz.f71 Zgp Tryz.func71
theorem ok72 : FnOK 12 72:=fm Tryz.f72 Zbt Tryz.func72
theorem ok73 : FnOK 234 73:=fm Tryz.f73 Zfk Tryz.func73
theorem ok74 : FnOK 31 74:=fm Tryz.f74 ZiQ Tryz.func74
theorem ok75 : FnOK 62 75:=fm Tryz.f75 ZiR Tryz.func75
theorem ok76 : FnOK 63 76:=fm Tryz.f76 ZiS Tryz.func76
theorem ok77 : FnOK 196 77:=fm Tryz.f77 Zin Tryz.func77
theorem ok78 : FnOK 169 78:=fm Tryz.f78 Zhp Tryz.func78
theorem ok79 : FnOK 268 79:=fm Tryz.f79 ZaG Tryz.func79
theorem ok80 : FnOK 269 80:=fm Tryz.f80 ZdA Tryz.func80
theorem ok81 : FnOK 270 81:=fm Tryz.f81 ZcW Tryz.func81
theorem ok82 : FnOK 271 82:=fm Tryz.f82 ZeT Tryz.func82
theorem ok83 : FnOK 272 83:=fm Tryz.f83 ZjJ Tryz.func83
theorem ok84 : FnOK 285 84:=fm Tryz.f84 Zhn Tryz.func84
theorem ok85 : FnOK 164 85:=fm Tryz.f85 Zmp Tryz.func85
theorem ok86 : FnOK 393 86:=fm Tryz.f86 Zde Tryz.func86
theorem ok87 : FnOK 193 87:=fm Tryz.f87 ZgO Tryz.func87
theorem ok88 : FnOK 58 88:=fm Tryz.f88 ZgP Tryz.func88
theorem ok89 : FnOK 60 89:=fm Tryz.f89 Zen Tryz.func89
theorem ok90 : FnOK 7 90:=fm Tryz.f90 Zft Tryz.func90
theorem ok91 : FnOK 176 91:=fm Tryz.f91 ZkT Tryz.func91
theorem ok92 : FnOK 178 92:=fm Tryz.f92 ZhL Tryz.func92
theorem ok93 : FnOK 179 93:=fm Tryz.f93 Zel Tryz.func93
theorem ok94 : FnOK 180 94:=fm Tryz.f94 Zfv Tryz.func94
theorem ok95 : FnOK 181 95:=fm Tryz.f95 Zem Tryz.func95
theorem ok96 : FnOK 182 96:=fm Tryz.f96 Zmj Tryz.func96
theorem ok97 : FnOK 183 97:=fm Tryz.f97 Zdu Tryz.func97
theorem ok98 : FnOK 401 98:=fm Tryz.f98 Zei Tryz.func98
theorem ok99 : FnOK 402 99:=fm Tryz.f99 Zcd Tryz.func99
theorem ok100 : FnOK 403 100:=fm Tryz.f100 Zbh Tryz.func100
theorem ok101 : FnOK 149 101:=fm Tryz.f101 ZgI Tryz.func101
theorem ok102 : FnOK 353 102:=fm Tryz.f102 ZdE Tryz.func102
theorem ok103 : FnOK 280 103:=fm Tryz.f103 ZbB Tryz.func103
theorem ok104 : FnOK 281 104:=fm Tryz.f104 Zej Tryz.func104
theorem ok105 : FnOK 65 105:=fm Tryz.f105 Zfh Tryz.func105
theorem ok106 : FnOK 220 106:=fm Tryz.f106 Zii Tryz.func106
theorem ok107 : FnOK 156 107:=fm Tryz.f107 ZhC Tryz.func107
theorem ok108 : FnOK 64 108:=fm Tryz.f108 Zic Tryz.func108
theorem ok109 : FnOK 102 109:=fm Tryz.f109 Zif Tryz.func109
theorem ok110 : FnOK 45 110:=fm Tryz.f110 ZgH Tryz.func110
theorem ok111 : FnOK 46 111:=fm Tryz.f111 Zmn Tryz.func111
theorem ok112 : FnOK 33 112:=fm Tryz.f112 ZkJ Tryz.func112
theorem ok113 : FnOK 72 113:=fm Tryz.f113 ZjQ Tryz.func113
theorem ok114 : FnOK 99 114:=fm Tryz.f114 ZkA Tryz.func114
theorem ok115 : FnOK 100 115:=fm Tryz.f115 Zev Tryz.func115
theorem ok116 : FnOK 101 116:=fm Tryz.f116 ZkB Tryz.func116
theorem ok117 : FnOK 158 117:=fm Tryz.f117 ZfU Tryz.func117
theorem ok118 : FnOK 44 118:=fm Tryz.f118 Zdn Tryz.func118
theorem ok119 : FnOK 42 119:=fm Tryz.f119 ZbW Tryz.func119
theorem ok120 : FnOK 297 120:=fm Tryz.f120 Zfn Tryz.func120
theorem ok121 : FnOK 298 121:=fm Tryz.f121 ZbX Tryz.func121
theorem ok122 : FnOK 299 122:=fm Tryz.f122 Zfo Tryz.func122
theorem ok123 : FnOK 300 123:=fm Tryz.f123 Zij Tryz.func123
theorem ok124 : FnOK 301 124:=fm Tryz.f124 Zfq Tryz.func124
theorem ok125 : FnOK 17 125:=fm Tryz.f125 ZkK Tryz.func125
theorem ok126 : FnOK 73 126:=fm Tryz.f126 ZiT Tryz.func126
theorem ok127 : FnOK 34 127:=fm Tryz.f127 ZhD Tryz.func127
theorem ok128 : FnOK 35 128:=fm Tryz.f128 ZiU Tryz.func128
theorem ok129 : FnOK 10 129:=fm Tryz.f129 ZgK Tryz.func129
theorem ok130 : FnOK 36 130:=fm Tryz.f130 ZbL Tryz.func130
theorem ok131 : FnOK 37 131:=fm Tryz.f131 ZkD Tryz.func131
theorem ok132 : FnOK 14 132:=fm Tryz.f132 ZeF Tryz.func132
theorem ok133 : FnOK 204 133:=fm Tryz.f133 ZdJ Tryz.func133
theorem ok134 : FnOK 186 134:=fm Tryz.f134 ZcL Tryz.func134
theorem ok135 : FnOK 18 135:=fm Tryz.f135 ZgN Tryz.func135
theorem ok136 : FnOK 289 136:=fm Tryz.f136 Zgv Tryz.func136
theorem ok137 : FnOK 290 137:=fm Tryz.f137 Zgu Tryz.func137
theorem ok138 : FnOK 291 138:=fm Tryz.f138 Zfx Tryz.func138
theorem ok139 : FnOK 292 139:=fm Tryz.f139 ZcE Tryz.func139
theorem ok140 : FnOK 293 140:=fm Tryz.f140 ZcF Tryz.func140
theorem ok141 : FnOK 294 141:=fm Tryz.f141 Zci Tryz.func141
theorem ok142 : FnOK 278 142:=fm Tryz.f142 Zdz Tryz.func142
theorem ok143 : FnOK 295 143:=fm Tryz.f143 Zbk Tryz.func143
theorem ok144 : FnOK 279 144:=fm Tryz.f144 Zdy Tryz.func144
theorem ok145 : FnOK 296 145:=fm Tryz.f145 Zhm Tryz.func145
theorem ok146 : FnOK 54 146:=fm Tryz.f146 ZhU Tryz.func146
theorem ok147 : FnOK 55 147:=fm Tryz.f147 Zpz Tryz.func147
theorem ok148 : FnOK 286 148:=fm Tryz.f148 ZeD Tryz.func148
theorem ok149 : FnOK 177 149:=fm Tryz.f149 Zau Tryz.func149
theorem ok150 : FnOK 399 150:=fm Tryz.f150 Zkm Tryz.func150
theorem ok151 : FnOK 194 151:=fm Tryz.f151 ZeL Tryz.func151
theorem ok152 : FnOK 400 152:=fm Tryz.f152 ZgD Tryz.func152
theorem ok153 : FnOK 95 153:=fm Tryz.f153 Zdv Tryz.func153
theorem ok154 : FnOK 201 154:=fm Tryz.f154 ZbR Tryz.func154
theorem ok155 : FnOK 21 155:=fm Tryz.f155 ZeI Tryz.func155
theorem ok156 : FnOK 22 156:=fm Tryz.f156 Zkn Tryz.func156
theorem ok157 : FnOK 23 157:=fm Tryz.f157 Zgt Tryz.func157
theorem ok158 : FnOK 24 158:=fm Tryz.f158 ZaJ Tryz.func158
theorem ok159 : FnOK 8 159:=fm Tryz.f159 ZgM Tryz.func159
theorem ok160 : FnOK 192 160:=fm Tryz.f160 Zjb Tryz.func160
theorem ok161 : FnOK 57 161:=fm Tryz.f161 ZkV Tryz.func161
theorem ok162 : FnOK 74 162:=fm Tryz.f162 Zko Tryz.func162
theorem ok163 : FnOK 197 163:=fm Tryz.f163 ZjN Tryz.func163
theorem ok164 : FnOK 174 164:=fm Tryz.f164 Zbq Tryz.func164
theorem ok165 : FnOK 405 165:=fm Tryz.f165 ZaH Tryz.func165
theorem ok166 : FnOK 263 166:=fm Tryz.f166 Zks Tryz.func166
theorem ok167 : FnOK 406 167:=fm Tryz.f167 ZcY Tryz.func167
theorem ok168 : FnOK 383 168:=fm Tryz.f168 Zfl Tryz.func168
theorem ok169 : FnOK 303 169:=fm Tryz.f169 Zik Tryz.func169
theorem ok170 : FnOK 172 170:=fm Tryz.f170 ZiX Tryz.func170
theorem ok171 : FnOK 83 171:=fm Tryz.f171 Zid Tryz.func171
theorem ok172 : FnOK 84 172:=fm Tryz.f172 ZgF Tryz.func172
theorem ok173 : FnOK 85 173:=fm Tryz.f173 ZiP Tryz.func173
theorem ok174 : FnOK 82 174:=fm Tryz.f174 ZgG Tryz.func174
theorem ok175 : FnOK 80 175:=fm Tryz.f175 Zie Tryz.func175
theorem ok176 : FnOK 68 176:=fm Tryz.f176 ZkH Tryz.func176
theorem ok177 : FnOK 311 177:=fm Tryz.f177 Zew Tryz.func177
theorem ok178 : FnOK 306 178:=fm Tryz.f178 ZkQ Tryz.func178
theorem ok179 : FnOK 41 179:=fm Tryz.f179 Zig Tryz.func179
theorem ok180 : FnOK 66 180:=fm Tryz.f180 Zcz Tryz.func180
theorem ok181 : FnOK 71 181:=fm Tryz.f181 ZiV Tryz.func181
theorem ok182 : FnOK 39 182:=fm Tryz.f182 ZeE Tryz.func182
theorem ok183 : FnOK 191 183:=fm Tryz.f183 Zeh Tryz.func183
theorem ok184 : FnOK 43 184:=fm Tryz.f184 ZhV Tryz.func184
theorem ok185 : FnOK 307 185:=fm Tryz.f185 ZaS Tryz.func185
theorem ok186 : FnOK 308 186:=fm Tryz.f186 Zcf Tryz.func186
theorem ok187 : FnOK 309 187:=fm Tryz.f187 ZaI Tryz.func187
theorem ok188 : FnOK 302 188:=fm Tryz.f188 Zce Tryz.func188
noncomputable def cc189 : CC:={ P:=Tryz.prog,toS:=toS,inl:=fun n => List.elem n ([313] : List Nat),dyn:=false,N:=Tryz.f189.ntmps }
theorem ok189 : FnOK 310 189:=ZtW cc189 Tryz.f189 ZjR rfl rfl Tryz.func189 rfl rfl (by kernel_rfl) (by kernel_rfl)
theorem ok190 : FnOK 15 190:=fm Tryz.f190 ZkR Tryz.func190
theorem ok191 : FnOK 195 191:=fm Tryz.f191 Zmi Tryz.func191
theorem ok192 : FnOK 184 192:=fm Tryz.f192 Zmk Tryz.func192
theorem ok193 : FnOK 86 193:=fm Tryz.f193 ZjM Tryz.func193
theorem ok194 : FnOK 90 194:=fm Tryz.f194 Zls Tryz.func194
theorem ok195 : FnOK 50 195:=fm Tryz.f195 Zdi Tryz.func195
theorem ok196 : FnOK 94 196:=fm Tryz.f196 ZhK Tryz.func196
theorem ok197 : FnOK 304 197:=fm Tryz.f197 ZfT Tryz.func197
theorem ok198 : FnOK 404 198:=fm Tryz.f198 Zkl Tryz.func198
theorem ok199 : FnOK 202 199:=fm Tryz.f199 Zfz Tryz.func199
theorem ok200 : FnOK 200 200:=fm Tryz.f200 ZaN Tryz.func200
theorem ok201 : FnOK 96 201:=fm Tryz.f201 Zeo Tryz.func201
theorem ok202 : FnOK 48 202:=fm Tryz.f202 ZeC Tryz.func202
theorem ok203 : FnOK 205 203:=fm Tryz.f203 ZjL Tryz.func203
theorem ok204 : FnOK 115 204:=fm Tryz.f204 Zed Tryz.func204
theorem ok205 : FnOK 47 205:=fm Tryz.f205 Zgs Tryz.func205
theorem ok206 : FnOK 49 206:=fm Tryz.f206 Zlr Tryz.func206
theorem ok207 : FnOK 51 207:=fm Tryz.f207 ZnH Tryz.func207
theorem ok208 : FnOK 52 208:=fm Tryz.f208 ZaB Tryz.func208
theorem ok209 : FnOK 53 209:=fm Tryz.f209 Zbc Tryz.func209
theorem ok210 : FnOK 56 210:=fm Tryz.f210 ZjS Tryz.func210
theorem ok211 : FnOK 25 211:=fm Tryz.f211 Zfy Tryz.func211
theorem ok212 : FnOK 98 212:=fm Tryz.f212 ZhE Tryz.func212
theorem ok213 : FnOK 106 213:=fm Tryz.f213 ZnJ Tryz.func213
theorem ok214 : FnOK 117 214:=fm Tryz.f214 Zkv Tryz.func214
theorem ok215 : FnOK 113 215:=fm Tryz.f215 ZnK Tryz.func215
theorem ok216 : FnOK 190 216:=fm Tryz.f216 ZhJ Tryz.func216
theorem ok217 : FnOK 257 217:=fm Tryz.f217 ZhW Tryz.func217
theorem ok218 : FnOK 166 218:=fm Tryz.f218 Zmq Tryz.func218
theorem ok219 : FnOK 173 219:=fm Tryz.f219 Zfi Tryz.func219
theorem ok220 : FnOK 188 220:=fm Tryz.f220 Zfm Tryz.func220
theorem ok221 : FnOK 111 221:=fm Tryz.f221 Zib Tryz.func221
theorem ok222 : FnOK 79 222:=fm Tryz.f222 Zea Tryz.func222
theorem ok223 : FnOK 75 223:=fm Tryz.f223 ZiB Tryz.func223
theorem ok224 : FnOK 81 224:=fm Tryz.f224 ZjO Tryz.func224
theorem ok225 : FnOK 78 225:=fm Tryz.f225 Zkq Tryz.func225
noncomputable def cc226 : CC:={ P:=Tryz.prog,toS:=toS,inl:=fun n => List.elem n ([] : List Nat),dyn:=true,N:=Tryz.f226.ntmps }
theorem ok226 : FnOK 313 226:=ZtW cc226 Tryz.f226 ZfA rfl rfl Tryz.func226 rfl rfl (by kernel_rfl) (by kernel_rfl)
theorem ok227 : FnOK 315 227:=fm Tryz.f227 Zja Tryz.func227
theorem ok228 : FnOK 40 228:=fm Tryz.f228 Zml Tryz.func228
theorem ok229 : FnOK 203 229:=fm Tryz.f229 ZfQ Tryz.func229
theorem ok230 : FnOK 198 230:=fm Tryz.f230 Zhl Tryz.func230
theorem ok231 : FnOK 114 231:=fm Tryz.f231 (ZaT 0) Tryz.func231
theorem ok232 : FnOK 89 232:=fm Tryz.f232 ZjP Tryz.func232
noncomputable def cc233 : CC:={ P:=Tryz.prog,toS:=toS,inl:=fun n => List.elem n ([94] : List Nat),dyn:=false,N:=Tryz.f233.ntmps }
theorem ok233 : FnOK 91 233:=ZtW cc233 Tryz.f233 ZiO rfl rfl Tryz.func233 rfl rfl (by kernel_rfl) (by kernel_rfl)
theorem ok234 : FnOK 312 234:=fm Tryz.f234 ZkU Tryz.func234
theorem ok235 : FnOK 87 235:=fm Tryz.f235 ZeS Tryz.func235
theorem ok236 : FnOK 88 236:=fm Tryz.f236 Zdd Tryz.func236
theorem ok237 : FnOK 92 237:=fm Tryz.f237 ZiZ Tryz.func237
theorem ok238 : FnOK 93 238:=fm Tryz.f238 ZeJ Tryz.func238
theorem ok239 : FnOK 97 239:=fm Tryz.f239 ZdI Tryz.func239
theorem ok240 : FnOK 59 240:=fm Tryz.f240 ZdH Tryz.func240
theorem ok241 : FnOK 199 241:=fm Tryz.f241 Zdf Tryz.func241
theorem ok242 : FnOK 277 242:=fm Tryz.f242 Zas Tryz.func242
theorem ok243 : FnOK 110 243:=fm Tryz.f243 Zff Tryz.func243
theorem ok244 : FnOK 77 244:=fm Tryz.f244 Zdh Tryz.func244
theorem ok245 : FnOK 112 245:=fm Tryz.f245 Ziy Tryz.func245
theorem ok246 : FnOK 107 246:=fm Tryz.f246 ZhZ Tryz.func246
theorem ok247 : FnOK 76 247:=fm Tryz.f247 Zng Tryz.func247
theorem ok248 : FnOK 207 248:=fm Tryz.f248 Znf Tryz.func248
theorem ok249 : FnOK 208 249:=fm Tryz.f249 ZfR Tryz.func249
theorem ok250 : FnOK 206 250:=fm Tryz.f250 ZjK Tryz.func250
theorem ok251 : FnOK 104 251:=fm Tryz.f251 ZnG Tryz.func251
theorem ok252 : FnOK 108 252:=fm Tryz.f252 Zkx Tryz.func252
noncomputable def cc253 : CC:={ P:=Tryz.prog,toS:=toS,inl:=fun n => List.elem n ([91,120] : List Nat),dyn:=false,N:=Tryz.f253.ntmps }
theorem ok253 : FnOK 109 253:=ZtW cc253 Tryz.f253 Zmm rfl rfl Tryz.func253 rfl rfl (by kernel_rfl) (by kernel_rfl)
theorem ok254 : FnOK 103 254:=fm Tryz.f254 ZnI Tryz.func254
theorem ok255 : FnOK 105 255:=fm Tryz.f255 Zlq Tryz.func255
theorem ok256 : FnOK 209 256:=fm Tryz.f256 Zkp Tryz.func256
theorem ok257 : FnOK 118 257:=fm Tryz.f257 Ziz Tryz.func257
theorem ok258 : FnOK 119 258:=fm Tryz.f258 ZbP Tryz.func258
theorem ok259 : FnOK 120 259:=fm Tryz.f259 ZfS Tryz.func259
theorem ok260 : FnOK 116 260:=fm Tryz.f260 ZnL Tryz.func260
theorem ok261 : FnOK 121 261:=fm Tryz.f261 ZiA Tryz.func261
theorem ZGv : AllP FnOK lnk:=⟨ok3,ok5,ok6,ok7,ok8,ok9,ok10,ok11,ok12,ok13,ok14,ok15,ok16,ok17,ok18,ok19,ok20,ok21,ok22,ok23,ok24,ok25,ok26,ok27,ok28,ok29,ok30,ok31,ok32,ok33,ok34,ok35,ok36,ok37,ok38,ok39,ok40,ok41,ok42,ok43,ok44,ok45,ok46,ok47,ok48,ok49,ok50,ok51,ok52,ok53,ok54,ok55,ok56,ok57,ok58,ok59,ok60,ok61,ok62,ok63,ok64,ok65,ok66,ok67,ok68,ok69,ok70,ok71,ok72,ok73,ok74,ok75,ok76,ok77,ok78,ok79,ok80,ok81,ok82,ok83,ok84,ok85,ok86,ok87,ok88,ok89,ok90,ok91,ok92,ok93,ok94,ok95,ok96,ok97,ok98,ok99,ok100,ok101,ok102,ok103,ok104,ok105,ok106,ok107,ok108,ok109,ok110,ok111,ok112,ok113,ok114,ok115,ok116,ok117,ok118,ok119,ok120,ok121,ok122,ok123,ok124,ok125,ok126,ok127,ok128,ok129,ok130,ok131,ok132,ok133,ok134,ok135,ok136,ok137,ok138,ok139,ok140,ok141,ok142,ok143,ok144,ok145,ok146,ok147,ok148,ok149,ok150,ok151,ok152,ok153,ok154,ok155,ok156,ok157,ok158,ok159,ok160,ok161,ok162,ok163,ok164,ok165,ok166,ok167,ok168,ok169,ok170,ok171,ok172,ok173,ok174,ok175,ok176,ok177,ok178,ok179,ok180,ok181,ok182,ok183,ok184,ok185,ok186,ok187,ok188,ok189,ok190,ok191,ok192,ok193,ok194,ok195,ok196,ok197,ok198,ok199,ok200,ok201,ok202,ok203,ok204,ok205,ok206,ok207,ok208,ok209,ok210,ok211,ok212,ok213,ok214,ok215,ok216,ok217,ok218,ok219,ok220,ok221,ok222,ok223,ok224,ok225,ok226,ok227,ok228,ok229,ok230,ok231,ok232,ok233,ok234,ok235,ok236,ok237,ok238,ok239,ok240,ok241,ok242,ok243,ok244,ok245,ok246,ok247,ok248,ok249,ok250,ok251,ok252,ok253,ok254,ok255,ok256,ok257,ok258,ok259,ok260,ok261,trivial⟩
theorem ZKk : ProgOK Tryz.prog L0 (tbl 0):=⟨fun f g h => AllP.of ZGv f g h,rfl⟩
theorem mixed : Tryz.prog.follows .mixedOrders = true:=by kernel_rfl
end Go.Proofs.YtnomgajekgfgaaaGreatDoor
namespace Go.Proofs.YtnomgajekgfgaaaGreatDoor
open Go Go.Cv Go.ChangeShapes Go.WideShapes Go.ChangeAt Go.WideMaps Go.WideElems Go.RowKit
theorem own : ownKnob Tryz.prog.godebug = none:=by kernel_rfl
theorem laidOut : laidOutB Tryz.prog = true:=by kernel_rfl
theorem gTab : Tryz.prog.globalNamed "math/bits.deBruijn32tab" = some 0:=by kernel_rfl
theorem tTab : (Tryz.prog.globals[0]?).map (·.type) = some 298:=by kernel_rfl
def laid1 : List (String × DataW Unit):=[("math/bits.deBruijn32tab",Rows.laid_math_bits_deBruijn32tab)]
theorem ZIZ (os : Os) (args : Array Value) : laidMetH Tryz.prog laid1 ((World.doorLaid Tryz.prog 400 os).forCall (fun _ _ => 0) ⟨#[],args,[]⟩).memory :=
 laidMetH_of_parts3 (fuel:=8) (laidMet_of_run' 8 (by kernel_rfl) (by kernel_rfl)) (by kernel_rfl) (by kernel_rfl)
theorem ZJX {W : World} (h : laidMetH Tryz.prog laid1 W) : Gok (glb 0) ⟨L0,W,fun r => r < W.heap.size,noι⟩:=by
 rw [MakeChecks.laidMetH_plain _ _ _ (by kernel_rfl)] at h
 obtain ⟨ps,⟨g0,t0,cs0,f0,p0,q0,hg0,ht0,hv0,hd0,_,_⟩,_,_⟩:=h
 obtain rfl:=Option.some.inj (gTab.symm.trans hg0)
 obtain rfl:=Option.some.inj (tTab.symm.trans ht0)
 have hc:=ZIN (l:=ntz32) (e:=5) (show Tryz.prog.underlying 298 = some (.array ntz32.length 5) by kernel_rfl) (show Tryz.prog.underlying 5 = some (.int .u8) by kernel_rfl) (by kernel_rfl) hd0
 exact ZGZ (fun j d hj => by rw [World.var?_cell hg0 hv0 j]; exact hc j d hj) (by decide)
theorem and2 {a b : Bool} (h : a = true) (k : b = true) : (a && b) = true:=by rw [h,k]; rfl
theorem jMaps : mapsRowed Tryz.prog = true:=by kernel_rfl
theorem jHeard : Tryz.prog.stopsHeard = true:=by kernel_rfl
theorem jEnter : Tryz.prog.mayEnter = true:=by kernel_rfl
end Go.Proofs.YtnomgajekgfgaaaGreatDoor
