/-
 A part of the proof of the statements of this seat (texts that the law's own text leans on): no condition.
-/
import Derived.Test.YtddmoldiopnifaaGreatDoorM5
import Derived.Test.YtddmoldiopnifaaGreatDoorM8
import Derived.ProofKit
import Derived.LaidMore
import Derived.OpenShut
import Derived.Deep.Slices
import Derived.Lib.SmallJoins
import Derived.Carry
import Derived.Below
import Derived.ChangeSame
import Derived.Test.YtddmoldiopnifaaGreatDoorM15
import Derived.Deep.SlicePairs
import Derived.Test.YtddmoldiopnifaaGreatDoorM9
import Derived.Test.YtddmoldiopnifaaGreatDoorM7
import Derived.KernelRfl
import Derived.Test.YtddmoldiopnifaaGreatDoorProg
import Derived.Test.YtddmoldiopnifaaGreatDoorRows
import Derived.Test.YtddmoldiopnifaaGreatDoorChecked
import Derived.Stop.Joined
import Derived.SevenTiedAt
set_option linter.unusedVariables false
set_option linter.unusedSimpArgs false
namespace Go.Cv
open Go Go.RowKit Go.WideShapes Go.ChangeShapes Go.WideElems Go.Deep Go.Joins
section
variable {H : Type} {enc : TypeId × Value→H} {P : Program}
theorem Zmq (hl : laidOutB P = true) {W W' : World} {sp : Nat→Bool} (hb : Below W.heap.size W W') :
  ∀ {ts : List TypeId} {vs : List Value} {ds : List (DataW H)} {ps : List MemPlace},(∀ t ∈ ts,P.readableRec t = true∧t < P.types.size) →
  DataW.TrodAll enc P W 0 (fun _ => true) true ts vs ds ps→(∀ p ∈ ps,p.block < W.heap.size∧sp p.block = true)→DataW.TrodAll enc P W' 0 sp true ts vs ds ps
 | [],vs,ds,ps,_,h,_ => by
  obtain ⟨rfl,rfl,rfl⟩:=trodAll_nil h
  rfl
 | t :: ts,vs,ds,ps,ht,h,hp => by
  obtain ⟨v,vs1,d,ds1,p,q,rfl,rfl,rfl,h1,h2⟩:=trodAll_cons h
  refine ⟨p,q,?_,?_,rfl⟩
  ·exact Trod_stays hl (ht t (List.mem_cons_self ..)).1 (ht t (List.mem_cons_self ..)).2 h1 (fun x hx => hb.same (hp x (List.mem_append_left _ hx)).1) (fun x hx => (hp x (List.mem_append_left _ hx)).2)
  ·exact Zmq hl hb (fun t' h' => ht t' (List.mem_cons_of_mem _ h')) h2 (fun x hx => hp x (List.mem_append_right _ hx))
theorem ZGQ {f : Func} {s : ChangeSpec} {apart fresh handsOn again : Bool} {W W' : World} {args : Array Value} {ds gs : List (DataW H)} {before : List MemPlace} {tb : TypeId}
  (hl : laidOutB P = true) (hp : f.params.toList.all (fun t => P.readableRec t && decide (t < P.types.size)) = true) (hr : f.resultTypes = #[tb]) (ht : P.underlying tb = some .bool) (hv : s.vars = [])
  (hs : s.fn H (ds ++ gs) = { results:=[.lit (.bool true)],args:=ds })
  (hW : DataW.Whole enc P f.params.toList s.vars apart W args.toList ds gs before) (hb : Below W.heap.size W W') :
  s.post enc P f apart fresh handsOn again W args (.bool true) W':=by
 have hlt : ∀ p ∈ before,p.block < W.heap.size:=fun p hp => hW.lt p hp
 have hts : ∀ t ∈ f.params.toList,P.readableRec t = true∧t < P.types.size:=fun t h => by
  have:=List.all_eq_true.1 hp t h
  simpa using this
 have hres : ∀ (b : Nat) (sp : Nat→Bool) (hd : Bool),DataW.TrodAll enc P W' b sp hd f.resultTypes.toList ((Value.bool true).resultList f.resultTypes.size) (s.fn H (ds ++ gs)).results []:=fun b sp hd => by
  rw [hs,hr]; exact trodAll_mk1 (shut_bool ht true)
 have hW0:=hW
 obtain ⟨p,q,hA,hV,hpq,hz,hn⟩:=hW
 rw [hv] at hV
 obtain ⟨rfl,rfl⟩:=trodVars_none hV
 rw [List.append_nil] at hpq
 subst hpq
 have hargs : ∀ sp : Nat→Bool,(∀ x ∈ before,sp x.block = true)→DataW.TrodAll enc P W' 0 sp true f.params.toList args.toList (s.fn H (ds ++ [])).args before:=fun sp h => by
  rw [hs]; exact Zmq hl hb hts hA (fun x hx => ⟨hlt x hx,h x hx⟩)
 have hvars : ∀ sp : Nat→Bool,DataW.TrodVars enc P W' sp s.vars (s.fn H (ds ++ [])).vars []:=fun sp => by rw [hs,hv]; rfl
 have hold : ∀ p ∈ before,(fun b => decide (b < W.heap.size)) p.block = true:=fun p hp => by simpa using hlt p hp
 refine ⟨ds,[],before,[],before,[],hW0,hres _ _ _,hargs _ hold,hvars _,World.keptBut_mono (fun p hp => ⟨hp,?_⟩) (hb.frame (· ∈ before)),fun _ => ?_⟩
 ·exact Or.inr (Or.inl hp)
 ·refine ⟨ok_one hr rfl (okWide_bool_mk ht true),_,_,([] ++ before) ++ [],⟨[] ++ before,[],trodAll_append (hargs _ (fun _ _ => rfl)) (hres _ _ _),hvars _,rfl,?_,?_⟩,?_⟩
  ·intro b off hp
   have hin : MemPlace.cell b off ∈ before:=by simpa using hp
   rw [hb.frozen (hlt _ hin)]
   exact hz b off hin
  ·intro ha
   simpa using hn ha
  ·intro p hp _
   simpa using hp
end
theorem ZHf {P : Program} {L : Nat→Option FuncId} {G : Nat→Option (List AV)} {T : Tbl} (hm : P.follows .mixedOrders = true) (hP : ProgOK P L T) {f : Nat} {g : FuncId} {args : List AV} (hLf : L f = some g)
  (hr : run G T f args = some (.bool true)) {W : World} (hG : Gok G ⟨L,W,fun r => r < W.heap.size,noι⟩) {us : Array Value} (hu : RelL ⟨L,W,fun r => r < W.heap.size,noι⟩ args us.toList)
  {Q : Value→World→Prop} (hQ : ∀ W',Go.RowKit.Below W.heap.size W W'→Q (.bool true) W') :
  Calls P g us W fun e W' => ∃ v,e = .returned v∧Q v W':=by
 have h:=Zyy hm hP hLf hr W (fun r => r < W.heap.size) (fun _ h => h) hG hu
 refine h.mono ?_
 rintro e W' ⟨u,rfl,hb,hrel⟩
 simp only [Rel] at hrel
 subst hrel
 exact ⟨_,rfl,hQ W' hb⟩
theorem ZFk {L : Nat→Option FuncId} {W : World} {g : Nat} {l : List Nat} (h : ∀ (j d : Nat),l[j]? = some d→W.cell? ⟨g,j,none⟩ = some (.int .u8 (d : Int))) (hl : 0 < l.length) :
  Gok (fun n => if n = g then some (l.map fun (d : Nat) => .int .u8 (d : Int)) else none) ⟨L,W,fun r => r < W.heap.size,noι⟩:=by
 intro g' cs hg
 simp only at hg
 split at hg
 ·next he =>
  subst he
  cases hg
  constructor
  ·have h0:=h 0 l[0] (List.getElem?_eq_getElem hl)
   show g' < W.heap.size
   unfold World.cell? at h0
   split at h0
   ·next c _ _ hh => exact Zmi hh
   ·cases h0
  ·rw [Zaz]
   intro j v hj
   rw [List.getElem?_map] at hj
   cases hd : l[j]? with
   | none => rw [hd] at hj; cases hj
   | some d =>
    rw [hd] at hj
    simp only [Option.map_some,Option.some.injEq] at hj
    subst hj
    rw [Nat.zero_add]
    exact ⟨_,h j d hd,rfl,by simp only [Rel]⟩
 ·cases hg
section
variable {H : Type} {enc : TypeId × Value→H} {P : Program}
theorem ZGD {w : World} {base : Nat} {sp : Nat→Bool} {held : Bool} {t e : TypeId} {fuel : Nat} {cs : Array Value} {l : List Nat} {ps : List MemPlace}
  (ht : P.underlying t = some (.array l.length e)) (he : P.underlying e = some (.int .u8)) (hc : P.cellsOf e = 1)
  (h : DataW.trod enc P w base sp held fuel t cs.toList = some (.agg (l.map fun (d : Nat) => .lit (.int .u8 (d : Int))),ps)) : ∀ (j d : Nat),l[j]? = some d→cs[j]? = some (.int .u8 (d : Int)):=by
 obtain ⟨xs,m,rfl,hx,hlen,hn,hel⟩:=DataW.trod_array ht h
 intro j d hj
 have hjl : j < l.length:=(List.getElem?_eq_some_iff.1 hj).1
 have h1:=hel j hjl
 simp only [Prod.mk.injEq,DataW.agg.injEq] at hx
 have hxj : xs[j]? = some xs[j]:=List.getElem?_eq_getElem (by omega)
 rw [hxj,hc,Nat.mul_one] at h1
 obtain ⟨k,e1,e2,_⟩:=DataW.trod_int he h1
 have h3 : (l.map fun (d : Nat) => (DataW.lit (.int .u8 (d : Int)) : DataW H))[j]? = (xs.map (·.1))[j]?:=by rw [hx.1]
 rw [List.getElem?_map,List.getElem?_map,hj,hxj] at h3
 simp only [Option.map_some,Option.some.injEq,e2] at h3
 simp only [DataW.lit.injEq,Lit.int.injEq,true_and] at h3
 subst h3
 have h4 : (cs.toList.drop j).take 1 = [.int .u8 (d : Int)]:=e1
 have h5 : cs.toList[j]? = some (.int .u8 (d : Int)):=by
  have : ((cs.toList.drop j).take 1)[0]? = some (.int .u8 (d : Int)):=by rw [h4]; rfl
  rw [List.getElem?_take] at this
  simpa using this
 simpa using h5
end
end Go.Cv
namespace Go.Cv
open Go Go.RowKit Go.WideShapes Go.ChangeShapes Go.WideElems Go.Deep Go.Joins
section
variable {H : Type} {enc : TypeId × Value→H} {P : Program}
theorem Zvp {a : Int} (h : (Lit.int .u64 a).wf = true) : ∃ k : Nat,k < 18446744073709551616∧a = (k : Int):=by
 have h2 : (decide ((0 : Int)≤a) && decide (a≤18446744073709551615)) = true:=h
 simp only [Bool.and_eq_true,decide_eq_true_eq] at h2
 exact ⟨a.toNat,by omega,by omega⟩
theorem ZHs {w : World} {S : Sc} {r : Reach} {b0 base : Nat} {held : Bool} {t : TypeId} {f0 f1 : Field} {v : Value} {d : DataW H} {p : List MemPlace}
  (hs : P.underlying t = some (.struct #[f0,f1])) (hone : oneCellFields P #[f0,f1] = true) (hC : P.cellsOf t = 2) (h0 : P.underlying f0.type = some (.int .u64)) (h1 : P.underlying f1.type = some (.int .u64))
  (hv : Value.okWide P w r b0 t v) (h : DataW.Trod enc P w base (fun _ => true) held t v d p) :
  ∃ a b : Nat,a < 18446744073709551616∧b < 18446744073709551616∧Rel S (.agg [.int .u64 (a : Int),.int .u64 (b : Int)]) v:=by
 obtain ⟨v0,v1,y0,y1,n,rfl,_,_,k0,k1⟩:=open_agg2 hs hone hC hv h
 obtain ⟨x,hx,_,hw0⟩:=DataW.trod_int h0 k0
 obtain rfl : v0 = .int .u64 x:=by simpa using hx
 obtain ⟨y,hy,_,hw1⟩:=DataW.trod_int h1 k1
 obtain rfl : v1 = .int .u64 y:=by simpa using hy
 obtain ⟨a,a1,rfl⟩:=Zvp hw0
 obtain ⟨b,b1,rfl⟩:=Zvp hw1
 refine ⟨a,b,a1,b1,?_⟩
 simp only [Rel,RelL]
 exact ⟨_,rfl,.int .u64 a,[.int .u64 b],rfl,rfl,.int .u64 b,[],rfl,rfl,rfl⟩
end
end Go.Cv
namespace Go.Cv
open Go Go.RowKit Go.WideShapes Go.ChangeShapes Go.WideElems Go.Deep Go.Joins
section
variable {H : Type} {enc : TypeId × Value→H} {P : Program}
end
end Go.Cv
namespace Go.Cv
open Go Go.RowKit Go.WideShapes Go.ChangeShapes Go.WideElems Go.Deep Go.Joins
section
variable {H : Type} {enc : TypeId × Value→H} {P : Program}
end
end Go.Cv
namespace Go.Cv
def glb (g : Nat) : Nat→Option (List AV):=fun n => if n = g then some (ntz32.map fun (d : Nat) => .int .u8 (d : Int)) else none
theorem glob (g : Nat) : Glob (glb g) g:=if_pos rfl
theorem al (g : Nat) : Al (glb g) (tbl g) g:=⟨hasA g,hasB g,hasC g,hasD g,hasE g,hasF g,hasG g,hasH g,hasJ g,glob g⟩
end Go.Cv
set_option maxRecDepth 100000
namespace Go.Proofs.YtddmoldiopnifaaGreatDoor
open Go Go.Cv
def tosL : List Nat:=[0,0,0,0,317,0,0,0,0,0,0,0,0,0,0,328,27,329,330,185,331,332,0,0,250,334,20,335,258,336,0,0,149,150,156,0,338,339,340,0,0,0,0,0,0,155,30,0,0,70,151,69,154,0,67,65,31,68,33,0,0,0,0,0,0,0,0,0,0,0,360,361,362,252,363,364,0,0,275,276,365,45,46,366,367,257,280,281,368,369,0,370,371,0,373,374,0,0,0,73,0,304,26,192,0,0,0,0,0,0,0,0,222,219,0,63,62,102,16,32,158,0,80,72,99,100,101,0,0,0,0,0,0,0,237,388,268,269,270,271,272,389,297,298,299,300,301,38,17,390,83,84,85,277,195,278,279,303,172,391,0,0,0,157,12,42,312,58,60,95,200,196,189,0,0,0,193,230,231,232,233,234,0,64,0,0,0,0,0,0,0,182,0,0,0,0,0,398,289,290,291,292,293,294,295,296,54,55,220,311,306,41,111,302,74,203,184,173,188,8,0,21,22,0,23,24,34,35,10,36,37,14,115,204,0,0,0,194,0,201,57,197,0,0,0,307,308,309,310,15,86,90,50,94,79,48,205,49,207,208,198,25,47,75,0,78,51,52,53,56,66,71,39,0,202,96,98,106,117,113,0,0,0,0,313,315,40,114,89,91,110,87,88,103,105,209,104,59,77,112,107,92,93,97,0,0,76,116,108,109,0,121,118,119,120,0,0,0,0,0,0,0,0,0,0,0,0,0,0,0,0,0,0,0,0,0]
def lnk : List (Nat × Nat):=[(317,4),(328,15),(27,16),(329,17),(330,18),(185,19),(331,20),(332,21),(250,24),(334,25),(20,26),(335,27),(258,28),(336,29),(149,32),(150,33),(156,34),(338,36),(339,37),(340,38),(155,45),(30,46),(70,49),(151,50),(69,51),(154,52),(67,54),(65,55),(31,56),(68,57),(33,58),(360,70),(361,71),(362,72),(252,73),(363,74),(364,75),(275,78),(276,79),(365,80),(45,81),(46,82),(366,83),(367,84),(257,85),(280,86),(281,87),(368,88),(369,89),(370,91),(371,92),(373,94),(374,95),(73,99),(304,101),(26,102),(192,103),(222,112),(219,113),(63,115),(62,116),(102,117),(16,118),(32,119),(158,120),(80,122),(72,123),(99,124),(100,125),(101,126),(237,134),(388,135),(268,136),(269,137),(270,138),(271,139),(272,140),(389,141),(297,142),(298,143),(299,144),(300,145),(301,146),(38,147),(17,148),(390,149),(83,150),(84,151),(85,152),(277,153),(195,154),(278,155),(279,156),(303,157),(172,158),(391,159),(157,163),(12,164),(42,165),(312,166),(58,167),(60,168),(95,169),(200,170),(196,171),(189,172),(193,176),(230,177),(231,178),(232,179),(233,180),(234,181),(64,183),(182,191),(398,197),(289,198),(290,199),(291,200),(292,201),(293,202),(294,203),(295,204),(296,205),(54,206),(55,207),(220,208),(311,209),(306,210),(41,211),(111,212),(302,213),(74,214),(203,215),(184,216),(173,217),(188,218),(8,219),(21,221),(22,222),(23,224),(24,225),(34,226),(35,227),(10,228),(36,229),(37,230),(14,231),(115,232),(204,233),(194,237),(201,239),(57,240),(197,241),(307,245),(308,246),(309,247),(310,248),(15,249),(86,250),(90,251),(50,252),(94,253),(79,254),(48,255),(205,256),(49,257),(207,258),(208,259),(198,260),(25,261),(47,262),(75,263),(78,265),(51,266),(52,267),(53,268),(56,269),(66,270),(71,271),(39,272),(202,274),(96,275),(98,276),(106,277),(117,278),(113,279),(313,284),(315,285),(40,286),(114,287),(89,288),(91,289),(110,290),(87,291),(88,292),(103,293),(105,294),(209,295),(104,296),(59,297),(77,298),(112,299),(107,300),(92,301),(93,302),(97,303),(76,306),(116,307),(108,308),(109,309),(121,311),(118,312),(119,313),(120,314)]
def toS (g : FuncId) : Option Nat:=match tosL.getD g 0 with | 0 => none | n + 1 => some (n + 1)
def lnkF (l : List (Nat × Nat)) (f : Nat) : Option FuncId:=match l with | [] => none | p :: r => if p.1 = f then some p.2 else lnkF r f
def L0 (f : Nat) : Option FuncId:=lnkF lnk f
def AllP (Q : Nat→Nat→Prop) : List (Nat × Nat)→Prop | [] => True | p :: l => Q p.1 p.2∧AllP Q l
theorem AllP.of {Q : Nat→Nat→Prop} : ∀ {l : List (Nat × Nat)},AllP Q l→∀ f g,lnkF l f = some g→Q f g
 | [],_,f,g,h => by cases h
 | p :: l,⟨h1,h2⟩,f,g,h => by
  unfold lnkF at h
  by_cases he : p.1 = f
  ·rw [if_pos he] at h; cases h; subst he; exact h1
  ·rw [if_neg he] at h; exact AllP.of h2 f g h
def bodyB (P : Program) (p : Nat × Nat) : Bool:=match P.funcs[p.2]? with | some fn => (fn.name != "runtime.NumGoroutine") | none => false
theorem bodies : lnk.all (bodyB Tryz.prog) = true:=by kernel_rfl
theorem toB : (List.range tosL.length).all (fun g => match toS g with | some f => (L0 f == some g) | none => true) = true:=by kernel_rfl
theorem ZxK : ∀ (l : List (Nat × Nat)) (f g : Nat),lnkF l f = some g→(f,g) ∈ l
 | [],_,_,h => by cases h
 | p :: l,f,g,h => by
  unfold lnkF at h
  by_cases he : p.1 = f
  ·rw [if_pos he] at h; cases h; subst he; exact List.mem_cons_self ..
  ·rw [if_neg he] at h; exact List.mem_cons_of_mem _ (ZxK l f g h)
theorem ZDu (C : CC) (hP : C.P = Tryz.prog) (hS : C.toS = toS) : Link C L0:=by
 constructor
 ·intro g f h
  rw [hS] at h
  have hb:=List.all_eq_true.1 toB
  have hg : g < tosL.length:=by
   rcases Nat.lt_or_ge g tosL.length with x | x
   ·exact x
   ·exfalso; unfold toS at h; rw [List.getD_eq_getElem?_getD,List.getElem?_eq_none x] at h; cases h
  have:=hb g (List.mem_range.2 hg)
  rw [h] at this
  simpa using this
 ·intro f g h
  have:=List.all_eq_true.1 bodies _ (ZxK _ _ _ h)
  unfold bodyB at this
  rw [hP]
  cases hf : Tryz.prog.funcs[g]? with
  | none => simp [hf] at this
  | some fn => simp [hf] at this; exact ⟨fn,rfl,this⟩
def FnOK (f g : Nat) : Prop:=FnB Tryz.prog L0 (tbl 1) f g∨FnP Tryz.prog (tbl 1) f g
theorem ZmE {f g : Nat} (C : CC) (fn : Func) (fi : IFn) (h1 : C.P = Tryz.prog) (h2 : C.toS = toS) (h3 : Tryz.prog.funcs[g]? = some fn) (h4 : C.N = fn.ntmps) (h5 : tbl 1 f = some fi) (h6 : fn.body.bind (compC C) = some (erase fi.body)) (h7 : mapO (compRes Tryz.prog) fn.results.toList = some fi.res) : FnOK f g:=by
 cases hb : fn.body with
 | none => rw [hb] at h6; cases h6
 | some c => rw [hb] at h6; exact .inl ⟨C,fn,c,fi,h1,ZDu C h1 h2,h3,Nat.le_of_eq h4,hb,h5,h6,h7⟩
noncomputable def C0 (n : Nat) : CC:={ P:=Tryz.prog,toS:=toS,inl:=fun n => List.elem n ([] : List Nat),dyn:=false,N:=n }
theorem fm {f g : Nat} (fn : Func) (fi : IFn) (h3 : Tryz.prog.funcs[g]? = some fn) (h5 : tbl 1 f = some fi:=by rfl) (h6 : fn.body.bind (compC (C0 fn.ntmps)) = some (erase fi.body):=by kernel_rfl) (h7 : mapO (compRes Tryz.prog) fn.results.toList = some fi.res:=by kernel_rfl) : FnOK f g:=ZmE (C0 fn.ntmps) fn fi rfl rfl h3 rfl h5 h6 h7
noncomputable def cc4 : CC:={ P:=Tryz.prog,toS:=toS,inl:=fun n => List.elem n ([328,335,331] : List Nat),dyn:=false,N:=Tryz.f4.ntmps }
theorem ok4 : FnOK 317 4:=ZmE cc4 Tryz.f4 Zax rfl rfl Tryz.func4 rfl rfl (by kernel_rfl) (by kernel_rfl)
theorem ok15 : FnOK 328 15:=fm Tryz.f15 ZcK Tryz.func15
theorem ok16 : FnOK 27 16:=fm Tryz.f16 Zkx Tryz.func16
noncomputable def cc17 : CC:={ P:=Tryz.prog,toS:=toS,inl:=fun n => List.elem n ([328,330,331] : List Nat),dyn:=false,N:=Tryz.f17.ntmps }
theorem ok17 : FnOK 329 17:=ZmE cc17 Tryz.f17 ZfM rfl rfl Tryz.func17 rfl rfl (by kernel_rfl) (by kernel_rfl)
noncomputable def cc18 : CC:={ P:=Tryz.prog,toS:=toS,inl:=fun n => List.elem n ([360] : List Nat),dyn:=false,N:=Tryz.f18.ntmps }
theorem ok18 : FnOK 330 18:=ZmE cc18 Tryz.f18 ZaJ rfl rfl Tryz.func18 rfl rfl (by kernel_rfl) (by kernel_rfl)
theorem ok19 : FnOK 185 19:=fm Tryz.f19 Zbb Tryz.func19
noncomputable def cc20 : CC:={ P:=Tryz.prog,toS:=toS,inl:=fun n => List.elem n ([363] : List Nat),dyn:=false,N:=Tryz.f20.ntmps }
theorem ok20 : FnOK 331 20:=ZmE cc20 Tryz.f20 Zaw rfl rfl Tryz.func20 rfl rfl (by kernel_rfl) (by kernel_rfl)
theorem ok21 : FnOK 332 21:=fm Tryz.f21 Zgh Tryz.func21
theorem ok24 : FnOK 250 24:=fm Tryz.f24 Zcj Tryz.func24
theorem ok25 : FnOK 334 25:=fm Tryz.f25 Zdk Tryz.func25
theorem ok26 : FnOK 20 26:=fm Tryz.f26 Zgx Tryz.func26
noncomputable def cc27 : CC:={ P:=Tryz.prog,toS:=toS,inl:=fun n => List.elem n ([360] : List Nat),dyn:=false,N:=Tryz.f27.ntmps }
theorem ok27 : FnOK 335 27:=ZmE cc27 Tryz.f27 Zai rfl rfl Tryz.func27 rfl rfl (by kernel_rfl) (by kernel_rfl)
theorem ok28 : FnOK 258 28:=fm Tryz.f28 ZgF Tryz.func28
theorem ok29 : FnOK 336 29:=fm Tryz.f29 Zdq Tryz.func29
theorem ok32 : FnOK 149 32:=fm Tryz.f32 Zfu Tryz.func32
theorem ok33 : FnOK 150 33:=fm Tryz.f33 Zdj Tryz.func33
theorem ok34 : FnOK 156 34:=fm Tryz.f34 ZfV Tryz.func34
theorem ok36 : FnOK 338 36:=fm Tryz.f36 ZcL Tryz.func36
theorem ok37 : FnOK 339 37:=fm Tryz.f37 ZbD Tryz.func37
theorem ok38 : FnOK 340 38:=fm Tryz.f38 Zdl Tryz.func38
theorem ok45 : FnOK 155 45:=fm Tryz.f45 ZfU Tryz.func45
theorem ok46 : FnOK 30 46:=fm Tryz.f46 ZiP Tryz.func46
theorem ok49 : FnOK 70 49:=fm Tryz.f49 ZiN Tryz.func49
theorem ok50 : FnOK 151 50:=fm Tryz.f50 Zee Tryz.func50
theorem ok51 : FnOK 69 51:=fm Tryz.f51 ZiL Tryz.func51
theorem ok52 : FnOK 154 52:=fm Tryz.f52 ZiM Tryz.func52
theorem ok54 : FnOK 67 54:=fm Tryz.f54 ZaV Tryz.func54
theorem ok55 : FnOK 65 55:=fm Tryz.f55 Zec Tryz.func55
theorem ok56 : FnOK 31 56:=fm Tryz.f56 Zhf Tryz.func56
theorem ok57 : FnOK 68 57:=fm Tryz.f57 ZiO Tryz.func57
theorem ok58 : FnOK 33 58:=fm Tryz.f58 ZiQ Tryz.func58
noncomputable def cc70 : CC:={ P:=Tryz.prog,toS:=toS,inl:=fun n => List.elem n ([368,369] : List Nat),dyn:=false,N:=Tryz.f70.ntmps }
theorem ok70 : FnOK 360 70:=ZmE cc70 Tryz.f70 Zag rfl rfl Tryz.func70 rfl rfl (by kernel_rfl) (by kernel_rfl)
theorem ok71 : FnOK 361 71:=fm Tryz.f71 ZdS Tryz.func71
theorem ok72 : FnOK 362 72:=fm Tryz.f72 ZdT Tryz.func72
theorem ok73 : FnOK 252 73:=fm Tryz.f73 Zgq Tryz.func73
noncomputable def cc74 : CC:={ P:=Tryz.prog,toS:=toS,inl:=fun n => List.elem n ([389] : List Nat),dyn:=false,N:=Tryz.f74.ntmps }
theorem ok74 : FnOK 363 74:=ZmE cc74 Tryz.f74 Zau rfl rfl Tryz.func74 rfl rfl (by kernel_rfl) (by kernel_rfl)
theorem ok75 : FnOK 364 75:=fm Tryz.f75 ZbS Tryz.func75
theorem ok78 : FnOK 275 78:=fm Tryz.f78 Zdz Tryz.func78
theorem ok79 : FnOK 276 79:=fm Tryz.f79 ZcC Tryz.func79
theorem ok80 : FnOK 365 80:=fm Tryz.f80 ZiW Tryz.func80
theorem ok81 : FnOK 45 81:=fm Tryz.f81 Zft Tryz.func81
theorem ok82 : FnOK 46 82:=fm Tryz.f82 Zkw Tryz.func82
theorem ok83 : FnOK 366 83:=fm Tryz.f83 Zcr Tryz.func83
theorem ok84 : FnOK 367 84:=fm Tryz.f84 Zcs Tryz.func84
theorem ok85 : FnOK 257 85:=fm Tryz.f85 Zgp Tryz.func85
theorem ok86 : FnOK 280 86:=fm Tryz.f86 Zbx Tryz.func86
theorem ok87 : FnOK 281 87:=fm Tryz.f87 Zdp Tryz.func87
theorem ok88 : FnOK 368 88:=fm Tryz.f88 Zah Tryz.func88
noncomputable def cc89 : CC:={ P:=Tryz.prog,toS:=toS,inl:=fun n => List.elem n ([391] : List Nat),dyn:=false,N:=Tryz.f89.ntmps }
theorem ok89 : FnOK 369 89:=ZmE cc89 Tryz.f89 Zao rfl rfl Tryz.func89 rfl rfl (by kernel_rfl) (by kernel_rfl)
theorem ok91 : FnOK 370 91:=.inr ⟨Tryz.f91,.of32,Tryz.func91,by kernel_rfl,by kernel_rfl,by kernel_rfl,by kernel_rfl,rfl⟩
theorem ok92 : FnOK 371 92:=.inr ⟨Tryz.f92,.b32,Tryz.func92,by kernel_rfl,by kernel_rfl,by kernel_rfl,by kernel_rfl,rfl⟩
theorem ok94 : FnOK 373 94:=.inr ⟨Tryz.f94,.of64,Tryz.func94,by kernel_rfl,by kernel_rfl,by kernel_rfl,by kernel_rfl,rfl⟩
theorem ok95 : FnOK 374 95:=.inr ⟨Tryz.f95,.b64,Tryz.func95,by kernel_rfl,by kernel_rfl,by kernel_rfl,by kernel_rfl,rfl⟩
theorem ok99 : FnOK 73 99:=fm Tryz.f99 Zhi Tryz.func99
theorem ok101 : FnOK 304 101:=fm Tryz.f101 ZeK Tryz.func101
theorem ok102 : FnOK 26 102:=fm Tryz.f102 Zky Tryz.func102
theorem ok103 : FnOK 192 103:=fm Tryz.f103 Zhq Tryz.func103
theorem ok112 : FnOK 222 112:=fm Tryz.f112 Zca Tryz.func112
theorem ok113 : FnOK 219 113:=fm Tryz.f113 ZaQ Tryz.func113
theorem ok115 : FnOK 63 115:=fm Tryz.f115 Zhh Tryz.func115
theorem ok116 : FnOK 62 116:=fm Tryz.f116 Zhg Tryz.func116
theorem ok117 : FnOK 102 117:=fm Tryz.f117 Zgy Tryz.func117
theorem ok118 : FnOK 16 118:=fm Tryz.f118 ZdH Tryz.func118
theorem ok119 : FnOK 32 119:=fm Tryz.f119 ZgA Tryz.func119
theorem ok120 : FnOK 158 120:=fm Tryz.f120 ZeL Tryz.func120
theorem ok122 : FnOK 80 122:=fm Tryz.f122 Zgw Tryz.func122
theorem ok123 : FnOK 72 123:=fm Tryz.f123 ZhY Tryz.func123
theorem ok124 : FnOK 99 124:=fm Tryz.f124 ZiH Tryz.func124
theorem ok125 : FnOK 100 125:=fm Tryz.f125 Zdx Tryz.func125
theorem ok126 : FnOK 101 126:=fm Tryz.f126 ZiI Tryz.func126
theorem ok134 : FnOK 237 134:=fm Tryz.f134 ZaY Tryz.func134
theorem ok135 : FnOK 388 135:=fm Tryz.f135 Zfq Tryz.func135
theorem ok136 : FnOK 268 136:=fm Tryz.f136 ZaG Tryz.func136
theorem ok137 : FnOK 269 137:=fm Tryz.f137 ZcJ Tryz.func137
theorem ok138 : FnOK 270 138:=fm Tryz.f138 Zcq Tryz.func138
theorem ok139 : FnOK 271 139:=fm Tryz.f139 ZdR Tryz.func139
theorem ok140 : FnOK 272 140:=fm Tryz.f140 ZhT Tryz.func140
theorem ok141 : FnOK 389 141:=.inr ⟨Tryz.f141,.ald,Tryz.func141,by kernel_rfl,by kernel_rfl,by kernel_rfl,by kernel_rfl,rfl⟩
theorem ok142 : FnOK 297 142:=fm Tryz.f142 Zeh Tryz.func142
theorem ok143 : FnOK 298 143:=fm Tryz.f143 ZbI Tryz.func143
theorem ok144 : FnOK 299 144:=fm Tryz.f144 Zei Tryz.func144
theorem ok145 : FnOK 300 145:=fm Tryz.f145 ZgD Tryz.func145
theorem ok146 : FnOK 301 146:=fm Tryz.f146 Zej Tryz.func146
theorem ok147 : FnOK 38 147:=fm Tryz.f147 Zfg Tryz.func147
theorem ok148 : FnOK 17 148:=fm Tryz.f148 ZiR Tryz.func148
theorem ok149 : FnOK 390 149:=fm Tryz.f149 Zek Tryz.func149
theorem ok150 : FnOK 83 150:=fm Tryz.f150 Zgv Tryz.func150
theorem ok151 : FnOK 84 151:=fm Tryz.f151 Zfs Tryz.func151
theorem ok152 : FnOK 85 152:=fm Tryz.f152 Zhe Tryz.func152
theorem ok153 : FnOK 277 153:=fm Tryz.f153 Zat Tryz.func153
theorem ok154 : FnOK 195 154:=fm Tryz.f154 Zkr Tryz.func154
theorem ok155 : FnOK 278 155:=fm Tryz.f155 ZcI Tryz.func155
theorem ok156 : FnOK 279 156:=fm Tryz.f156 ZcH Tryz.func156
theorem ok157 : FnOK 303 157:=fm Tryz.f157 ZgE Tryz.func157
theorem ok158 : FnOK 172 158:=fm Tryz.f158 Zhm Tryz.func158
theorem ok159 : FnOK 391 159:=.inr ⟨Tryz.f159,.aadd,Tryz.func159,by kernel_rfl,by kernel_rfl,by kernel_rfl,by kernel_rfl,rfl⟩
theorem ok163 : FnOK 157 163:=fm Tryz.f163 Zfv Tryz.func163
theorem ok164 : FnOK 12 164:=fm Tryz.f164 Zbp Tryz.func164
theorem ok165 : FnOK 42 165:=fm Tryz.f165 ZbH Tryz.func165
theorem ok166 : FnOK 312 166:=fm Tryz.f166 ZiY Tryz.func166
theorem ok167 : FnOK 58 167:=fm Tryz.f167 Zhr Tryz.func167
theorem ok168 : FnOK 60 168:=fm Tryz.f168 Zdr Tryz.func168
theorem ok169 : FnOK 95 169:=fm Tryz.f169 ZdA Tryz.func169
theorem ok170 : FnOK 200 170:=fm Tryz.f170 ZaR Tryz.func170
theorem ok171 : FnOK 196 171:=fm Tryz.f171 ZiZ Tryz.func171
theorem ok172 : FnOK 189 172:=fm Tryz.f172 Zbt Tryz.func172
theorem ok176 : FnOK 193 176:=fm Tryz.f176 Zho Tryz.func176
theorem ok177 : FnOK 230 177:=fm Tryz.f177 ZiT Tryz.func177
theorem ok178 : FnOK 231 178:=fm Tryz.f178 ZiS Tryz.func178
theorem ok179 : FnOK 232 179:=fm Tryz.f179 Zhl Tryz.func179
theorem ok180 : FnOK 233 180:=fm Tryz.f180 ZiU Tryz.func180
theorem ok181 : FnOK 234 181:=fm Tryz.f181 Zef Tryz.func181
theorem ok183 : FnOK 64 183:=fm Tryz.f183 Zgu Tryz.func183
theorem ok191 : FnOK 182 191:=fm Tryz.f191 Zks Tryz.func191
theorem ok197 : FnOK 398 197:=fm Tryz.f197 ZeX Tryz.func197
theorem ok198 : FnOK 289 198:=fm Tryz.f198 Zfk Tryz.func198
theorem ok199 : FnOK 290 199:=fm Tryz.f199 Zfj Tryz.func199
theorem ok200 : FnOK 291 200:=fm Tryz.f200 Zen Tryz.func200
theorem ok201 : FnOK 292 201:=fm Tryz.f201 Zcb Tryz.func201
theorem ok202 : FnOK 293 202:=fm Tryz.f202 Zcc Tryz.func202
theorem ok203 : FnOK 294 203:=fm Tryz.f203 ZbR Tryz.func203
theorem ok204 : FnOK 295 204:=fm Tryz.f204 Zbj Tryz.func204
theorem ok205 : FnOK 296 205:=fm Tryz.f205 ZfL Tryz.func205
theorem ok206 : FnOK 54 206:=fm Tryz.f206 Zgo Tryz.func206
theorem ok207 : FnOK 55 207:=fm Tryz.f207 Znf Tryz.func207
theorem ok208 : FnOK 220 208:=fm Tryz.f208 ZgB Tryz.func208
theorem ok209 : FnOK 311 209:=fm Tryz.f209 Zdy Tryz.func209
theorem ok210 : FnOK 306 210:=fm Tryz.f210 ZiV Tryz.func210
theorem ok211 : FnOK 41 211:=fm Tryz.f211 Zgz Tryz.func211
theorem ok212 : FnOK 111 212:=fm Tryz.f212 Zgt Tryz.func212
theorem ok213 : FnOK 302 213:=fm Tryz.f213 ZbN Tryz.func213
theorem ok214 : FnOK 74 214:=fm Tryz.f214 Ziz Tryz.func214
theorem ok215 : FnOK 203 215:=fm Tryz.f215 ZeH Tryz.func215
theorem ok216 : FnOK 184 216:=fm Tryz.f216 Zkt Tryz.func216
theorem ok217 : FnOK 173 217:=fm Tryz.f217 Zed Tryz.func217
theorem ok218 : FnOK 188 218:=fm Tryz.f218 Zeg Tryz.func218
theorem ok219 : FnOK 8 219:=fm Tryz.f219 Zfx Tryz.func219
theorem ok221 : FnOK 21 221:=fm Tryz.f221 Zfy Tryz.func221
theorem ok222 : FnOK 22 222:=fm Tryz.f222 Ziy Tryz.func222
theorem ok224 : FnOK 23 224:=fm Tryz.f224 Zfi Tryz.func224
theorem ok225 : FnOK 24 225:=fm Tryz.f225 ZaL Tryz.func225
theorem ok226 : FnOK 34 226:=fm Tryz.f226 ZfW Tryz.func226
theorem ok227 : FnOK 35 227:=fm Tryz.f227 Zhj Tryz.func227
theorem ok228 : FnOK 10 228:=fm Tryz.f228 Zfw Tryz.func228
theorem ok229 : FnOK 36 229:=fm Tryz.f229 Zbz Tryz.func229
theorem ok230 : FnOK 37 230:=fm Tryz.f230 ZiK Tryz.func230
theorem ok231 : FnOK 14 231:=fm Tryz.f231 ZdG Tryz.func231
theorem ok232 : FnOK 115 232:=fm Tryz.f232 Zfl Tryz.func232
theorem ok233 : FnOK 204 233:=fm Tryz.f233 ZcQ Tryz.func233
theorem ok237 : FnOK 194 237:=fm Tryz.f237 ZdJ Tryz.func237
theorem ok239 : FnOK 201 239:=fm Tryz.f239 ZbF Tryz.func239
theorem ok240 : FnOK 57 240:=fm Tryz.f240 Zja Tryz.func240
theorem ok241 : FnOK 197 241:=fm Tryz.f241 ZhW Tryz.func241
theorem ok245 : FnOK 307 245:=fm Tryz.f245 ZaT Tryz.func245
theorem ok246 : FnOK 308 246:=fm Tryz.f246 ZbO Tryz.func246
theorem ok247 : FnOK 309 247:=fm Tryz.f247 ZaI Tryz.func247
noncomputable def cc248 : CC:={ P:=Tryz.prog,toS:=toS,inl:=fun n => List.elem n ([313] : List Nat),dyn:=false,N:=Tryz.f248.ntmps }
theorem ok248 : FnOK 310 248:=ZmE cc248 Tryz.f248 ZhZ rfl rfl Tryz.func248 rfl rfl (by kernel_rfl) (by kernel_rfl)
theorem ok249 : FnOK 15 249:=fm Tryz.f249 ZiX Tryz.func249
theorem ok250 : FnOK 86 250:=fm Tryz.f250 ZhV Tryz.func250
theorem ok251 : FnOK 90 251:=fm Tryz.f251 ZjC Tryz.func251
theorem ok252 : FnOK 50 252:=fm Tryz.f252 ZcA Tryz.func252
theorem ok253 : FnOK 94 253:=fm Tryz.f253 Zgg Tryz.func253
theorem ok254 : FnOK 79 254:=fm Tryz.f254 Zdi Tryz.func254
theorem ok255 : FnOK 48 255:=fm Tryz.f255 ZdE Tryz.func255
theorem ok256 : FnOK 205 256:=fm Tryz.f256 ZhU Tryz.func256
theorem ok257 : FnOK 49 257:=fm Tryz.f257 ZjB Tryz.func257
theorem ok258 : FnOK 207 258:=fm Tryz.f258 Zlb Tryz.func258
theorem ok259 : FnOK 208 259:=fm Tryz.f259 ZeI Tryz.func259
theorem ok260 : FnOK 198 260:=fm Tryz.f260 ZfK Tryz.func260
theorem ok261 : FnOK 25 261:=fm Tryz.f261 Zeo Tryz.func261
theorem ok262 : FnOK 47 262:=fm Tryz.f262 Zfh Tryz.func262
theorem ok263 : FnOK 75 263:=fm Tryz.f263 ZgQ Tryz.func263
theorem ok265 : FnOK 78 265:=fm Tryz.f265 ZiB Tryz.func265
theorem ok266 : FnOK 51 266:=fm Tryz.f266 Zlw Tryz.func266
theorem ok267 : FnOK 52 267:=fm Tryz.f267 ZaC Tryz.func267
theorem ok268 : FnOK 53 268:=fm Tryz.f268 Zba Tryz.func268
theorem ok269 : FnOK 56 269:=fm Tryz.f269 Zia Tryz.func269
theorem ok270 : FnOK 66 270:=fm Tryz.f270 ZbZ Tryz.func270
theorem ok271 : FnOK 71 271:=fm Tryz.f271 Zhk Tryz.func271
theorem ok272 : FnOK 39 272:=fm Tryz.f272 ZdF Tryz.func272
theorem ok274 : FnOK 202 274:=fm Tryz.f274 Zep Tryz.func274
theorem ok275 : FnOK 96 275:=fm Tryz.f275 Zds Tryz.func275
theorem ok276 : FnOK 98 276:=fm Tryz.f276 ZfX Tryz.func276
theorem ok277 : FnOK 106 277:=fm Tryz.f277 Zly Tryz.func277
theorem ok278 : FnOK 117 278:=fm Tryz.f278 ZiC Tryz.func278
theorem ok279 : FnOK 113 279:=fm Tryz.f279 Zlz Tryz.func279
noncomputable def cc284 : CC:={ P:=Tryz.prog,toS:=toS,inl:=fun n => List.elem n ([] : List Nat),dyn:=true,N:=Tryz.f284.ntmps }
theorem ok284 : FnOK 313 284:=ZmE cc284 Tryz.f284 Zeq rfl rfl Tryz.func284 rfl rfl (by kernel_rfl) (by kernel_rfl)
theorem ok285 : FnOK 315 285:=fm Tryz.f285 Zhp Tryz.func285
theorem ok286 : FnOK 40 286:=fm Tryz.f286 Zku Tryz.func286
theorem ok287 : FnOK 114 287:=fm Tryz.f287 (ZaU 1) Tryz.func287
theorem ok288 : FnOK 89 288:=fm Tryz.f288 ZhX Tryz.func288
noncomputable def cc289 : CC:={ P:=Tryz.prog,toS:=toS,inl:=fun n => List.elem n ([94] : List Nat),dyn:=false,N:=Tryz.f289.ntmps }
theorem ok289 : FnOK 91 289:=ZmE cc289 Tryz.f289 Zhd rfl rfl Tryz.func289 rfl rfl (by kernel_rfl) (by kernel_rfl)
theorem ok290 : FnOK 110 290:=fm Tryz.f290 Zea Tryz.func290
theorem ok291 : FnOK 87 291:=fm Tryz.f291 ZdQ Tryz.func291
theorem ok292 : FnOK 88 292:=fm Tryz.f292 Zcy Tryz.func292
theorem ok293 : FnOK 103 293:=fm Tryz.f293 Zlx Tryz.func293
theorem ok294 : FnOK 105 294:=fm Tryz.f294 ZjA Tryz.func294
theorem ok295 : FnOK 209 295:=fm Tryz.f295 ZiA Tryz.func295
theorem ok296 : FnOK 104 296:=fm Tryz.f296 Zlv Tryz.func296
theorem ok297 : FnOK 59 297:=fm Tryz.f297 ZcO Tryz.func297
theorem ok298 : FnOK 77 298:=fm Tryz.f298 Zcz Tryz.func298
theorem ok299 : FnOK 112 299:=fm Tryz.f299 ZgN Tryz.func299
theorem ok300 : FnOK 107 300:=fm Tryz.f300 Zgr Tryz.func300
theorem ok301 : FnOK 92 301:=fm Tryz.f301 Zhn Tryz.func301
theorem ok302 : FnOK 93 302:=fm Tryz.f302 ZdI Tryz.func302
theorem ok303 : FnOK 97 303:=fm Tryz.f303 ZcP Tryz.func303
theorem ok306 : FnOK 76 306:=fm Tryz.f306 Zlc Tryz.func306
theorem ok307 : FnOK 116 307:=fm Tryz.f307 ZlA Tryz.func307
theorem ok308 : FnOK 108 308:=fm Tryz.f308 ZiE Tryz.func308
noncomputable def cc309 : CC:={ P:=Tryz.prog,toS:=toS,inl:=fun n => List.elem n ([91,120] : List Nat),dyn:=false,N:=Tryz.f309.ntmps }
theorem ok309 : FnOK 109 309:=ZmE cc309 Tryz.f309 Zkv rfl rfl Tryz.func309 rfl rfl (by kernel_rfl) (by kernel_rfl)
theorem ok311 : FnOK 121 311:=fm Tryz.f311 ZgP Tryz.func311
theorem ok312 : FnOK 118 312:=fm Tryz.f312 ZgO Tryz.func312
theorem ok313 : FnOK 119 313:=fm Tryz.f313 ZbC Tryz.func313
theorem ok314 : FnOK 120 314:=fm Tryz.f314 ZeJ Tryz.func314
theorem ZEv : AllP FnOK lnk:=⟨ok4,ok15,ok16,ok17,ok18,ok19,ok20,ok21,ok24,ok25,ok26,ok27,ok28,ok29,ok32,ok33,ok34,ok36,ok37,ok38,ok45,ok46,ok49,ok50,ok51,ok52,ok54,ok55,ok56,ok57,ok58,ok70,ok71,ok72,ok73,ok74,ok75,ok78,ok79,ok80,ok81,ok82,ok83,ok84,ok85,ok86,ok87,ok88,ok89,ok91,ok92,ok94,ok95,ok99,ok101,ok102,ok103,ok112,ok113,ok115,ok116,ok117,ok118,ok119,ok120,ok122,ok123,ok124,ok125,ok126,ok134,ok135,ok136,ok137,ok138,ok139,ok140,ok141,ok142,ok143,ok144,ok145,ok146,ok147,ok148,ok149,ok150,ok151,ok152,ok153,ok154,ok155,ok156,ok157,ok158,ok159,ok163,ok164,ok165,ok166,ok167,ok168,ok169,ok170,ok171,ok172,ok176,ok177,ok178,ok179,ok180,ok181,ok183,ok191,ok197,ok198,ok199,ok200,ok201,ok202,ok203,ok204,ok205,ok206,ok207,ok208,ok209,ok210,ok211,ok212,ok213,ok214,ok215,ok216,ok217,ok218,ok219,ok221,ok222,ok224,ok225,ok226,ok227,ok228,ok229,ok230,ok231,ok232,ok233,ok237,ok239,ok240,ok241,ok245,ok246,ok247,ok248,ok249,ok250,ok251,ok252,ok253,ok254,ok255,ok256,ok257,ok258,ok259,ok260,ok261,ok262,ok263,ok265,ok266,ok267,ok268,ok269,ok270,ok271,ok272,ok274,ok275,ok276,ok277,ok278,ok279,ok284,ok285,ok286,ok287,ok288,ok289,ok290,ok291,ok292,ok293,ok294,ok295,ok296,ok297,ok298,ok299,ok300,ok301,ok302,ok303,ok306,ok307,ok308,ok309,ok311,ok312,ok313,ok314,trivial⟩
theorem ZHm : ProgOK Tryz.prog L0 (tbl 1):=⟨fun f g h => AllP.of ZEv f g h⟩
theorem mixed : Tryz.prog.follows .mixedOrders = true:=by kernel_rfl
end Go.Proofs.YtddmoldiopnifaaGreatDoor
namespace Go.Proofs.YtddmoldiopnifaaGreatDoor
open Go Go.Cv Go.ChangeShapes Go.WideShapes Go.ChangeAt Go.WideMaps Go.WideElems Go.RowKit
theorem own : ownKnob Tryz.prog.godebug = none:=by kernel_rfl
theorem laidOut : laidOutB Tryz.prog = true:=by kernel_rfl
theorem gTab : Tryz.prog.globalNamed "math/bits.deBruijn32tab" = some 1:=by kernel_rfl
theorem tTab : (Tryz.prog.globals[1]?).map (·.type) = some 355:=by kernel_rfl
def laid1 : List (String × DataW Unit):=[("math/bits.deBruijn32tab",Rows.laid_math_bits_deBruijn32tab)]
theorem ZGP (os : Os) (args : Array Value) : laidMetH Tryz.prog laid1 ((World.doorLaid Tryz.prog 400 os).forCall (fun _ _ => 0) ⟨#[],args,[]⟩).memory :=
 laidMetH_of_parts3 (fuel:=8) (laidMet_of_run' 8 (by kernel_rfl) (by kernel_rfl)) (by kernel_rfl) (by kernel_rfl)
theorem ZHg {W : World} (h : laidMetH Tryz.prog laid1 W) : Gok (glb 1) ⟨L0,W,fun r => r < W.heap.size,noι⟩:=by
 rw [MakeChecks.laidMetH_plain _ _ _ (by kernel_rfl)] at h
 obtain ⟨ps,⟨g0,t0,cs0,f0,p0,q0,hg0,ht0,hv0,hd0,_,_⟩,_,_⟩:=h
 obtain rfl:=Option.some.inj (gTab.symm.trans hg0)
 obtain rfl:=Option.some.inj (tTab.symm.trans ht0)
 have hc:=ZGD (l:=ntz32) (e:=5) (show Tryz.prog.underlying 355 = some (.array ntz32.length 5) by kernel_rfl) (show Tryz.prog.underlying 5 = some (.int .u8) by kernel_rfl) (by kernel_rfl) hd0
 exact ZFk (fun j d hj => by rw [World.var?_cell hg0 hv0 j]; exact hc j d hj) (by decide)
theorem and2 {a b : Bool} (h : a = true) (k : b = true) : (a && b) = true:=by rw [h,k]; rfl
theorem jMaps : mapsRowed Tryz.prog = true:=by kernel_rfl
theorem jHeard : Tryz.prog.stopsHeard = true:=by kernel_rfl
theorem jEnter : Tryz.prog.mayEnter = true:=by kernel_rfl
end Go.Proofs.YtddmoldiopnifaaGreatDoor
