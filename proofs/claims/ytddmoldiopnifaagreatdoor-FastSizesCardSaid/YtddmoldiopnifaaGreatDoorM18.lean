/-
 A part of the proof of the statements of this seat (texts that the law's own text leans on): no condition.
-/
import Derived.Test.YtddmoldiopnifaaGreatDoorM5
import Derived.Test.YtddmoldiopnifaaGreatDoorM8
import Derived.ProofKit
import Derived.LaidMore
import Derived.OpenShut
import Derived.Deep.Slices
import Derived.Lib.SmallJoins
import Derived.Carry
import Derived.Below
import Derived.ChangeSame
import Derived.Test.YtddmoldiopnifaaGreatDoorM15
import Derived.Deep.SlicePairs
import Derived.Test.YtddmoldiopnifaaGreatDoorM17
import Derived.Test.YtddmoldiopnifaaGreatDoorM9
import Derived.Test.YtddmoldiopnifaaGreatDoorM7
import Derived.KernelRfl
import Derived.Test.YtddmoldiopnifaaGreatDoorProg
import Derived.Test.YtddmoldiopnifaaGreatDoorRows
import Derived.Test.YtddmoldiopnifaaGreatDoorChecked
import Derived.Stop.Joined
import Derived.SevenTiedAt
set_option linter.unusedVariables false
set_option linter.unusedSimpArgs false
namespace Go.Cv
open Go Go.RowKit Go.WideShapes Go.ChangeShapes Go.WideElems Go.Deep Go.Joins
section
variable {H : Type} {enc : TypeId × Value→H} {P : Program}
theorem ZlX (hl : laidOutB P = true) {W W' : World} {sp : Nat→Bool} (hb : Below W.heap.size W W') :
  ∀ {ts : List TypeId} {vs : List Value} {ds : List (DataW H)} {ps : List MemPlace},(∀ t ∈ ts,P.readableRec t = true∧t < P.types.size) →
  DataW.TrodAll enc P W 0 (fun _ => true) true ts vs ds ps→(∀ p ∈ ps,p.block < W.heap.size∧sp p.block = true)→DataW.TrodAll enc P W' 0 sp true ts vs ds ps
 | [],vs,ds,ps,_,h,_ => by
  obtain ⟨rfl,rfl,rfl⟩:=trodAll_nil h
  rfl
 | t :: ts,vs,ds,ps,ht,h,hp => by
  obtain ⟨v,vs1,d,ds1,p,q,rfl,rfl,rfl,h1,h2⟩:=trodAll_cons h
  refine ⟨p,q,?_,?_,rfl⟩
  ·exact Trod_stays hl (ht t (List.mem_cons_self ..)).1 (ht t (List.mem_cons_self ..)).2 h1 (fun x hx => hb.same (hp x (List.mem_append_left _ hx)).1) (fun x hx => (hp x (List.mem_append_left _ hx)).2)
  ·exact ZlX hl hb (fun t' h' => ht t' (List.mem_cons_of_mem _ h')) h2 (fun x hx => hp x (List.mem_append_right _ hx))
theorem ZGU {f : Func} {s : ChangeSpec} {apart fresh handsOn again : Bool} {W W' : World} {args : Array Value} {ds gs : List (DataW H)} {before : List MemPlace} {tb : TypeId}
  (hl : laidOutB P = true) (hp : f.params.toList.all (fun t => P.readableRec t && decide (t < P.types.size)) = true) (hr : f.resultTypes = #[tb]) (ht : P.underlying tb = some .bool) (hv : s.vars = [])
  (hs : s.fn H (ds ++ gs) = { results:=[.lit (.bool true)],args:=ds })
  (hW : DataW.Whole enc P f.params.toList s.vars apart W args.toList ds gs before) (hb : Below W.heap.size W W') :
  s.post enc P f apart fresh handsOn again W args (.bool true) W':=by
 have hlt : ∀ p ∈ before,p.block < W.heap.size:=fun p hp => hW.lt p hp
 have hts : ∀ t ∈ f.params.toList,P.readableRec t = true∧t < P.types.size:=fun t h => by
  have:=List.all_eq_true.1 hp t h
  simpa using this
 have hres : ∀ (b : Nat) (sp : Nat→Bool) (hd : Bool),DataW.TrodAll enc P W' b sp hd f.resultTypes.toList ((Value.bool true).resultList f.resultTypes.size) (s.fn H (ds ++ gs)).results []:=fun b sp hd => by
  rw [hs,hr]; exact trodAll_mk1 (shut_bool ht true)
 have hW0:=hW
 obtain ⟨p,q,hA,hV,hpq,hz,hn⟩:=hW
 rw [hv] at hV
 obtain ⟨rfl,rfl⟩:=trodVars_none hV
 rw [List.append_nil] at hpq
 subst hpq
 have hargs : ∀ sp : Nat→Bool,(∀ x ∈ before,sp x.block = true)→DataW.TrodAll enc P W' 0 sp true f.params.toList args.toList (s.fn H (ds ++ [])).args before:=fun sp h => by
  rw [hs]; exact ZlX hl hb hts hA (fun x hx => ⟨hlt x hx,h x hx⟩)
 have hvars : ∀ sp : Nat→Bool,DataW.TrodVars enc P W' sp s.vars (s.fn H (ds ++ [])).vars []:=fun sp => by rw [hs,hv]; rfl
 have hold : ∀ p ∈ before,(fun b => decide (b < W.heap.size)) p.block = true:=fun p hp => by simpa using hlt p hp
 refine ⟨ds,[],before,[],before,[],hW0,hres _ _ _,hargs _ hold,hvars _,World.keptBut_mono (fun p hp => ⟨hp,?_⟩) (hb.frame (· ∈ before)),fun _ => ?_⟩
 ·exact Or.inr (Or.inl hp)
 ·refine ⟨ok_one hr rfl (okWide_bool_mk ht true),_,_,([] ++ before) ++ [],⟨[] ++ before,[],trodAll_append (hargs _ (fun _ _ => rfl)) (hres _ _ _),hvars _,rfl,?_,?_⟩,?_⟩
  ·intro b off hp
   have hin : MemPlace.cell b off ∈ before:=by simpa using hp
   rw [hb.frozen (hlt _ hin)]
   exact hz b off hin
  ·intro ha
   simpa using hn ha
  ·intro p hp _
   simpa using hp
theorem ZyB {w : World} {a : Addr} {v : Value} (h : w.cell? (a.add 0) = some v) : a = ⟨a.block,a.off,none⟩:=by
 obtain ⟨b,o,s⟩:=a
 cases s with
 | none => rfl
 | some s =>
  exfalso
  unfold World.cell? Addr.add at h
  simp only [if_true] at h
  split at h
  ·simp at h
  ·cases h
end
theorem ZHj {P : Program} {L : Nat→Option FuncId} {G : Nat→Option (List AV)} {T : Tbl} (hm : P.follows .mixedOrders = true) (hP : ProgOK P L T) {f : Nat} {g : FuncId} {args : List AV} (hLf : L f = some g)
  (hr : run G T f args = some (.bool true)) {W : World} (hG : Gok G ⟨L,W,fun r => r < W.heap.size,noι⟩) {us : Array Value} (hu : RelL ⟨L,W,fun r => r < W.heap.size,noι⟩ args us.toList)
  {Q : Value→World→Prop} (hQ : ∀ W',Go.RowKit.Below W.heap.size W W'→Q (.bool true) W') :
  Calls P g us W fun e W' => ∃ v,e = .returned v∧Q v W':=by
 have h:=Zyq hm hP hLf hr W (fun r => r < W.heap.size) (fun _ h => h) hG hu
 refine h.mono ?_
 rintro e W' ⟨u,rfl,hb,hrel⟩
 simp only [Rel] at hrel
 subst hrel
 exact ⟨_,rfl,hQ W' hb⟩
theorem ZFp {L : Nat→Option FuncId} {W : World} {g : Nat} {l : List Nat} (h : ∀ (j d : Nat),l[j]? = some d→W.cell? ⟨g,j,none⟩ = some (.int .u8 (d : Int))) (hl : 0 < l.length) :
  Gok (fun n => if n = g then some (l.map fun (d : Nat) => .int .u8 (d : Int)) else none) ⟨L,W,fun r => r < W.heap.size,noι⟩:=by
 intro g' cs hg
 simp only at hg
 split at hg
 ·next he =>
  subst he
  cases hg
  constructor
  ·have h0:=h 0 l[0] (List.getElem?_eq_getElem hl)
   show g' < W.heap.size
   unfold World.cell? at h0
   split at h0
   ·next c _ _ hh => exact ZkA hh
   ·cases h0
  ·rw [ZaD]
   intro j v hj
   rw [List.getElem?_map] at hj
   cases hd : l[j]? with
   | none => rw [hd] at hj; cases hj
   | some d =>
    rw [hd] at hj
    simp only [Option.map_some,Option.some.injEq] at hj
    subst hj
    rw [Nat.zero_add]
    exact ⟨_,h j d hd,rfl,by simp only [Rel]⟩
 ·cases hg
section
variable {H : Type} {enc : TypeId × Value→H} {P : Program}
theorem ZGH {w : World} {base : Nat} {sp : Nat→Bool} {held : Bool} {t e : TypeId} {fuel : Nat} {cs : Array Value} {l : List Nat} {ps : List MemPlace}
  (ht : P.underlying t = some (.array l.length e)) (he : P.underlying e = some (.int .u8)) (hc : P.cellsOf e = 1)
  (h : DataW.trod enc P w base sp held fuel t cs.toList = some (.agg (l.map fun (d : Nat) => .lit (.int .u8 (d : Int))),ps)) : ∀ (j d : Nat),l[j]? = some d→cs[j]? = some (.int .u8 (d : Int)):=by
 obtain ⟨xs,m,rfl,hx,hlen,hn,hel⟩:=DataW.trod_array ht h
 intro j d hj
 have hjl : j < l.length:=(List.getElem?_eq_some_iff.1 hj).1
 have h1:=hel j hjl
 simp only [Prod.mk.injEq,DataW.agg.injEq] at hx
 have hxj : xs[j]? = some xs[j]:=List.getElem?_eq_getElem (by omega)
 rw [hxj,hc,Nat.mul_one] at h1
 obtain ⟨k,e1,e2,_⟩:=DataW.trod_int he h1
 have h3 : (l.map fun (d : Nat) => (DataW.lit (.int .u8 (d : Int)) : DataW H))[j]? = (xs.map (·.1))[j]?:=by rw [hx.1]
 rw [List.getElem?_map,List.getElem?_map,hj,hxj] at h3
 simp only [Option.map_some,Option.some.injEq,e2] at h3
 simp only [DataW.lit.injEq,Lit.int.injEq,true_and] at h3
 subst h3
 have h4 : (cs.toList.drop j).take 1 = [.int .u8 (d : Int)]:=e1
 have h5 : cs.toList[j]? = some (.int .u8 (d : Int)):=by
  have : ((cs.toList.drop j).take 1)[0]? = some (.int .u8 (d : Int)):=by rw [h4]; rfl
  rw [List.getElem?_take] at this
  simpa using this
 simpa using h5
end
end Go.Cv
namespace Go.Cv
open Go Go.RowKit Go.WideShapes Go.ChangeShapes Go.WideElems Go.Deep Go.Joins
section
variable {H : Type} {enc : TypeId × Value→H} {P : Program}
theorem Znd {a : Int} (h : (Lit.int .u64 a).wf = true) : ∃ k : Nat,k < 18446744073709551616∧a = (k : Int):=by
 have h2 : (decide ((0 : Int)≤a) && decide (a≤18446744073709551615)) = true:=h
 simp only [Bool.and_eq_true,decide_eq_true_eq] at h2
 exact ⟨a.toNat,by omega,by omega⟩
theorem ZHy {w : World} {S : Sc} {r : Reach} {b0 base : Nat} {held : Bool} {t : TypeId} {f0 f1 : Field} {v : Value} {d : DataW H} {p : List MemPlace}
  (hs : P.underlying t = some (.struct #[f0,f1])) (hone : oneCellFields P #[f0,f1] = true) (hC : P.cellsOf t = 2) (h0 : P.underlying f0.type = some (.int .u64)) (h1 : P.underlying f1.type = some (.int .u64))
  (hv : Value.okWide P w r b0 t v) (h : DataW.Trod enc P w base (fun _ => true) held t v d p) :
  ∃ a b : Nat,a < 18446744073709551616∧b < 18446744073709551616∧Rel S (.agg [.int .u64 (a : Int),.int .u64 (b : Int)]) v:=by
 obtain ⟨v0,v1,y0,y1,n,rfl,_,_,k0,k1⟩:=open_agg2 hs hone hC hv h
 obtain ⟨x,hx,_,hw0⟩:=DataW.trod_int h0 k0
 obtain rfl : v0 = .int .u64 x:=by simpa using hx
 obtain ⟨y,hy,_,hw1⟩:=DataW.trod_int h1 k1
 obtain rfl : v1 = .int .u64 y:=by simpa using hy
 obtain ⟨a,a1,rfl⟩:=Znd hw0
 obtain ⟨b,b1,rfl⟩:=Znd hw1
 refine ⟨a,b,a1,b1,?_⟩
 simp only [Rel,RelL]
 exact ⟨_,rfl,.int .u64 a,[.int .u64 b],rfl,rfl,.int .u64 b,[],rfl,rfl,rfl⟩
end
end Go.Cv
namespace Go.Cv
open Go Go.RowKit Go.WideShapes Go.ChangeShapes Go.WideElems Go.Deep Go.Joins
section
variable {H : Type} {enc : TypeId × Value→H} {P : Program}
end
end Go.Cv
namespace Go.Cv
open Go Go.RowKit Go.WideShapes Go.ChangeShapes Go.WideElems Go.Deep Go.Joins
section
variable {H : Type} {enc : TypeId × Value→H} {P : Program}
end
end Go.Cv
namespace Go.Cv
open Go Go.RowKit Go.WideShapes Go.ChangeShapes Go.WideElems Go.Deep Go.Joins
section
variable {H : Type} {enc : TypeId × Value→H} {P : Program}
theorem ZHo {w : World} {S : Sc} (hw : S.w = w) (hro : ∀ r,r < w.heap.size→S.ro r) {base : Nat} {held : Bool} {t e : TypeId} {f0 f1 f2 g0 g1 : Field} {r : Reach} {b0 : Nat} {v : Value} {d : DataW H} {p : List MemPlace}
  (ht : P.underlying t = some (.slice e)) (hs : P.underlying e = some (.struct #[f0,f1,f2])) (hc : P.cellsOf e = 5) (o0 : f0.offset = 0) (o1 : f1.offset = 1) (o2 : f2.offset = 3) (c0 : P.cellsOf f0.type = 1) (c1 : P.cellsOf f1.type = 2) (c2 : P.cellsOf f2.type = 2)
  (h0 : P.underlying f0.type = some (.int .i64)) (h1 : P.underlying f1.type = some (.struct #[g0,g1])) (h2 : P.underlying f2.type = some (.struct #[g0,g1])) (hone : oneCellFields P #[g0,g1] = true) (u0 : P.underlying g0.type = some (.int .u64)) (u1 : P.underlying g1.type = some (.int .u64))
  (hv : Value.okWide P w r b0 t v) (h : DataW.Trod enc P w base (fun _ => true) held t v d p) :
  ∃ z l,(∀ q ∈ l,q.2.1.1 < 18446744073709551616∧q.2.1.2 < 18446744073709551616∧q.2.2.1 < 18446744073709551616∧q.2.2.2 < 18446744073709551616)∧Rel S (CL z l) v:=by
 obtain ⟨p0,q0⟩:=hone_of hone 0 g0 rfl
 obtain ⟨p1,q1⟩:=hone_of hone 1 g1 rfl
 obtain ⟨fuel,h⟩:=h
 obtain ⟨sa,sl,sc,rfl⟩:=okWide_slice ht hv
 have hcell : (Value.slice sa sl sc).cells.toList = [.slice sa sl sc]:=rfl
 rw [hcell] at h
 rcases open_slice ht h with ⟨hcs,_⟩ | ⟨a,len,cap,m,n,D,Pl,hcs,hb,hl,hm,hmm,hxx,hx⟩
 ·obtain ⟨rfl,rfl,rfl⟩ : sa = none∧sl = 0∧sc = 0:=by simpa using hcs
  refine ⟨true,[],by simp,?_⟩
  show Rel S .nil _
  simp only [Rel]
 ·obtain ⟨rfl,rfl,rfl⟩ : sa = some a∧sl = len∧sc = cap:=by simpa using hcs
  simp only [if_true] at hmm
  subst hmm
  have pair : ∀ {k : Nat} {t' : TypeId} {u u' : Value} {y : DataW H × List MemPlace},P.underlying t' = some (.struct #[g0,g1])→DataW.trod enc P w base (fun _ => true) held k t' [u,u'] = some y →
    ∃ c d : Nat,(c < 18446744073709551616∧d < 18446744073709551616)∧u = .int .u64 (c : Int)∧u' = .int .u64 (d : Int):=fun {k t' u u' y} hu hq => by
   obtain ⟨y0,y1,n,_,_,e0,e1⟩:=trod_struct2 hu hq
   have e0' : DataW.trod enc P w base (fun _ => true) held n g0.type [u] = some y0:=by simpa [p0,q0] using e0
   have e1' : DataW.trod enc P w base (fun _ => true) held n g1.type [u'] = some y1:=by simpa [p1,q1] using e1
   obtain ⟨x,hx,_,hw0⟩:=DataW.trod_int u0 e0'
   obtain rfl : u = .int .u64 x:=by simpa using hx
   obtain ⟨y,hy,_,hw1⟩:=DataW.trod_int u1 e1'
   obtain rfl : u' = .int .u64 y:=by simpa using hy
   obtain ⟨k,k1,rfl⟩:=Znd hw0
   obtain ⟨l,l1,rfl⟩:=Znd hw1
   exact ⟨k,l,⟨k1,l1⟩,rfl,rfl⟩
  have hV : ∀ i,i < m→∃ q : Cal,(q.2.1.1 < 18446744073709551616∧q.2.1.2 < 18446744073709551616∧q.2.2.1 < 18446744073709551616∧q.2.2.2 < 18446744073709551616) ∧
    w.cell? (a.add (i * 5)) = some (.int .i64 q.1)∧w.cell? (a.add (i * 5 + 1)) = some (.int .u64 (q.2.1.1 : Int))∧w.cell? (a.add (i * 5 + 2)) = some (.int .u64 (q.2.1.2 : Int))∧w.cell? (a.add (i * 5 + 3)) = some (.int .u64 (q.2.2.1 : Int))∧w.cell? (a.add (i * 5 + 4)) = some (.int .u64 (q.2.2.2 : Int)):=fun i hi => by
   obtain ⟨cs',k1,k2⟩:=hx i hi
   rw [hc] at k1
   obtain ⟨_,hlen,hcl⟩:=World.cells?_some k1
   obtain ⟨xs,k,_,_,_,hxl,hf⟩:=DataW.trod_struct hs k2
   match xs,hxl,cs',hlen with
   | [y0,y1,y2],_,[v0,v1,v2,v3,v4],_ =>
    have s0:=hf 0 f0 rfl
    have s1:=hf 1 f1 rfl
    have s2:=hf 2 f2 rfl
    simp [o0,o1,o2,c0,c1,c2] at s0 s1 s2
    obtain ⟨x,hx0,_,_⟩:=DataW.trod_int h0 s0
    obtain rfl : v0 = .int .i64 x:=by simpa using hx0
    obtain ⟨b1,b2,⟨l1,l2⟩,rfl,rfl⟩:=pair h1 s1
    obtain ⟨b3,b4,⟨l3,l4⟩,rfl,rfl⟩:=pair h2 s2
    have e0:=hcl 0 (by omega)
    have e1:=hcl 1 (by omega)
    have e2:=hcl 2 (by omega)
    have e3:=hcl 3 (by omega)
    have e4:=hcl 4 (by omega)
    rw [add_add] at e0 e1 e2 e3 e4
    exact ⟨(x,(b1,b2),b3,b4),⟨l1,l2,l3,l4⟩,by simpa using e0,by simpa using e1,by simpa using e2,by simpa using e3,by simpa using e4⟩
  obtain ⟨q,hq⟩:=choose_lt hV
  have hlen : ((List.range sl).map q).length = sl:=by simp
  refine ⟨false,(List.range sl).map q,?_,?_⟩
  ·intro y hy
   obtain ⟨i,hi,rfl⟩:=List.mem_map.1 hy
   exact (hq i (by have:=List.mem_range.1 hi; omega)).1
  ·unfold CL
   rw [if_neg (fun x => by cases x.1),hlen]
   simp only [Rel]
   refine ⟨some a,m,rfl,hl,?_⟩
   by_cases hl0 : sl = 0
   ·left; subst hl0; rfl
   ·right
    have c0:=(hq 0 (by omega)).2.1
    rw [Nat.zero_mul] at c0
    have ha:=ZyB c0
    refine ⟨a.block,a.off,by rw [← ha],hro _ ?_,?_⟩
    ·unfold World.cell? at c0
     split at c0
     ·next c _ _ hh => 
      have hab : (a.add 0).block = a.block:=by unfold Addr.add; rfl
      rw [hab] at hh
      exact ZkA hh
     ·cases c0
    ·rw [ZaD]
     intro j u hj
     rw [ZoQ,List.getElem?_map] at hj
     rcases Nat.lt_or_ge (j / 5) sl with hjl | hjl
     ·rw [List.getElem?_range hjl] at hj
      simp only [Option.map_some,Option.bind_some] at hj
      obtain ⟨_,x0,x1,x2,x3,x4⟩:=hq (j / 5) (by omega)
      rw [ha,Zdh] at x0 x1 x2 x3 x4
      have hr : j % 5 = 0∨j % 5 = 1∨j % 5 = 2∨j % 5 = 3∨j % 5 = 4:=by omega
      rcases hr with e | e | e | e | e
      ·rw [e] at hj
       obtain rfl:=Option.some.inj hj
       rw [show a.off + j / 5 * 5 = a.off + j by omega] at x0
       refine ⟨_,by rw [← hw] at x0; exact x0,rfl,?_⟩
       simp only [Rel]
      ·rw [e] at hj
       obtain rfl:=Option.some.inj hj
       rw [show a.off + (j / 5 * 5 + 1) = a.off + j by omega] at x1
       refine ⟨_,by rw [← hw] at x1; exact x1,rfl,?_⟩
       simp only [Rel]
      ·rw [e] at hj
       obtain rfl:=Option.some.inj hj
       rw [show a.off + (j / 5 * 5 + 2) = a.off + j by omega] at x2
       refine ⟨_,by rw [← hw] at x2; exact x2,rfl,?_⟩
       simp only [Rel]
      ·rw [e] at hj
       obtain rfl:=Option.some.inj hj
       rw [show a.off + (j / 5 * 5 + 3) = a.off + j by omega] at x3
       refine ⟨_,by rw [← hw] at x3; exact x3,rfl,?_⟩
       simp only [Rel]
      ·rw [e] at hj
       obtain rfl:=Option.some.inj hj
       rw [show a.off + (j / 5 * 5 + 4) = a.off + j by omega] at x4
       refine ⟨_,by rw [← hw] at x4; exact x4,rfl,?_⟩
       simp only [Rel]
     ·rw [List.getElem?_eq_none (by simpa using hjl)] at hj
      cases hj
end
end Go.Cv
namespace Go.Cv
def glb (g : Nat) : Nat→Option (List AV):=fun n => if n = g then some (ntz32.map fun (d : Nat) => .int .u8 (d : Int)) else none
theorem glob (g : Nat) : Glob (glb g) g:=if_pos rfl
theorem al (g : Nat) : Al (glb g) (tbl g) g:=⟨hasA g,hasB g,hasC g,hasD g,hasE g,hasF g,hasG g,hasH g,hasJ g,glob g⟩
end Go.Cv
set_option maxRecDepth 100000
namespace Go.Proofs.YtddmoldiopnifaaGreatDoor
open Go Go.Cv
def tosL : List Nat:=[0,0,0,0,0,318,0,320,0,0,0,0,0,0,0,328,27,329,330,185,331,332,0,0,0,0,0,335,0,0,337,227,149,150,156,260,338,339,340,0,0,0,0,0,0,155,30,0,0,70,151,69,154,0,67,65,31,68,33,0,0,0,0,0,0,0,0,0,0,0,360,361,362,252,363,364,0,0,0,0,0,45,46,366,367,257,0,0,368,369,169,370,371,372,373,374,235,19,236,73,283,304,26,192,0,0,0,0,0,0,0,0,0,0,0,63,62,102,16,32,158,44,80,72,99,100,101,0,0,0,0,0,0,0,237,388,268,269,270,271,272,389,0,0,0,0,0,38,0,0,83,84,85,277,195,278,279,0,0,391,186,18,392,157,12,42,312,58,60,95,200,196,189,0,0,0,193,0,0,0,0,0,0,64,82,0,0,0,0,0,0,182,0,0,0,0,0,398,289,290,291,292,293,294,295,296,54,55,0,0,0,0,111,302,74,203,184,0,0,8,191,21,22,43,23,24,34,35,10,36,37,14,115,204,0,0,0,194,0,201,57,197,0,0,0,307,308,309,310,15,86,90,50,94,0,48,205,49,207,208,198,25,47,75,81,78,51,52,53,56,66,71,39,0,202,96,98,106,117,113,0,0,0,0,313,315,40,114,89,91,0,87,88,103,105,209,104,59,77,112,107,92,93,97,0,0,76,116,108,109,0,121,118,119,120,0,0,0,0,0,0,0,0,0,0,0,0,0,0,0,0,0,0,0,0,0]
def lnk : List (Nat × Nat):=[(318,5),(320,7),(328,15),(27,16),(329,17),(330,18),(185,19),(331,20),(332,21),(335,27),(337,30),(227,31),(149,32),(150,33),(156,34),(260,35),(338,36),(339,37),(340,38),(155,45),(30,46),(70,49),(151,50),(69,51),(154,52),(67,54),(65,55),(31,56),(68,57),(33,58),(360,70),(361,71),(362,72),(252,73),(363,74),(364,75),(45,81),(46,82),(366,83),(367,84),(257,85),(368,88),(369,89),(169,90),(370,91),(371,92),(372,93),(373,94),(374,95),(235,96),(19,97),(236,98),(73,99),(283,100),(304,101),(26,102),(192,103),(63,115),(62,116),(102,117),(16,118),(32,119),(158,120),(44,121),(80,122),(72,123),(99,124),(100,125),(101,126),(237,134),(388,135),(268,136),(269,137),(270,138),(271,139),(272,140),(389,141),(38,147),(83,150),(84,151),(85,152),(277,153),(195,154),(278,155),(279,156),(391,159),(186,160),(18,161),(392,162),(157,163),(12,164),(42,165),(312,166),(58,167),(60,168),(95,169),(200,170),(196,171),(189,172),(193,176),(64,183),(82,184),(182,191),(398,197),(289,198),(290,199),(291,200),(292,201),(293,202),(294,203),(295,204),(296,205),(54,206),(55,207),(111,212),(302,213),(74,214),(203,215),(184,216),(8,219),(191,220),(21,221),(22,222),(43,223),(23,224),(24,225),(34,226),(35,227),(10,228),(36,229),(37,230),(14,231),(115,232),(204,233),(194,237),(201,239),(57,240),(197,241),(307,245),(308,246),(309,247),(310,248),(15,249),(86,250),(90,251),(50,252),(94,253),(48,255),(205,256),(49,257),(207,258),(208,259),(198,260),(25,261),(47,262),(75,263),(81,264),(78,265),(51,266),(52,267),(53,268),(56,269),(66,270),(71,271),(39,272),(202,274),(96,275),(98,276),(106,277),(117,278),(113,279),(313,284),(315,285),(40,286),(114,287),(89,288),(91,289),(87,291),(88,292),(103,293),(105,294),(209,295),(104,296),(59,297),(77,298),(112,299),(107,300),(92,301),(93,302),(97,303),(76,306),(116,307),(108,308),(109,309),(121,311),(118,312),(119,313),(120,314)]
def toS (g : FuncId) : Option Nat:=match tosL.getD g 0 with | 0 => none | n + 1 => some (n + 1)
def lnkF (l : List (Nat × Nat)) (f : Nat) : Option FuncId:=match l with | [] => none | p :: r => if p.1 = f then some p.2 else lnkF r f
def L0 (f : Nat) : Option FuncId:=lnkF lnk f
def AllP (Q : Nat→Nat→Prop) : List (Nat × Nat)→Prop | [] => True | p :: l => Q p.1 p.2∧AllP Q l
theorem AllP.of {Q : Nat→Nat→Prop} : ∀ {l : List (Nat × Nat)},AllP Q l→∀ f g,lnkF l f = some g→Q f g
 | [],_,f,g,h => by cases h
 | p :: l,⟨h1,h2⟩,f,g,h => by
  unfold lnkF at h
  by_cases he : p.1 = f
  ·rw [if_pos he] at h; cases h; subst he; exact h1
  ·rw [if_neg he] at h; exact AllP.of h2 f g h
def bodyB (P : Program) (p : Nat × Nat) : Bool:=match P.funcs[p.2]? with | some fn => (fn.name != "runtime.NumGoroutine") | none => false
theorem bodies : lnk.all (bodyB Tryz.prog) = true:=by kernel_rfl
theorem toB : (List.range tosL.length).all (fun g => match toS g with | some f => (L0 f == some g) | none => true) = true:=by kernel_rfl
theorem Zxx : ∀ (l : List (Nat × Nat)) (f g : Nat),lnkF l f = some g→(f,g) ∈ l
 | [],_,_,h => by cases h
 | p :: l,f,g,h => by
  unfold lnkF at h
  by_cases he : p.1 = f
  ·rw [if_pos he] at h; cases h; subst he; exact List.mem_cons_self ..
  ·rw [if_neg he] at h; exact List.mem_cons_of_mem _ (Zxx l f g h)
theorem ZDl (C : CC) (hP : C.P = Tryz.prog) (hS : C.toS = toS) : Link C L0:=by
 constructor
 ·intro g f h
  rw [hS] at h
  have hb:=List.all_eq_true.1 toB
  have hg : g < tosL.length:=by
   rcases Nat.lt_or_ge g tosL.length with x | x
   ·exact x
   ·exfalso; unfold toS at h; rw [List.getD_eq_getElem?_getD,List.getElem?_eq_none x] at h; cases h
  have:=hb g (List.mem_range.2 hg)
  rw [h] at this
  simpa using this
 ·intro f g h
  have:=List.all_eq_true.1 bodies _ (Zxx _ _ _ h)
  unfold bodyB at this
  rw [hP]
  cases hf : Tryz.prog.funcs[g]? with
  | none => simp [hf] at this
  | some fn => simp [hf] at this; exact ⟨fn,rfl,this⟩
def FnOK (f g : Nat) : Prop:=FnB Tryz.prog L0 (tbl 1) f g∨FnP Tryz.prog (tbl 1) f g
theorem ZkG {f g : Nat} (C : CC) (fn : Func) (fi : IFn) (h1 : C.P = Tryz.prog) (h2 : C.toS = toS) (h3 : Tryz.prog.funcs[g]? = some fn) (h4 : C.N = fn.ntmps) (h5 : tbl 1 f = some fi) (h6 : fn.body.bind (compC C) = some (erase fi.body)) (h7 : mapO (compRes Tryz.prog) fn.results.toList = some fi.res) : FnOK f g:=by
 cases hb : fn.body with
 | none => rw [hb] at h6; cases h6
 | some c => rw [hb] at h6; exact .inl ⟨C,fn,c,fi,h1,ZDl C h1 h2,h3,Nat.le_of_eq h4,hb,h5,h6,h7⟩
noncomputable def C0 (n : Nat) : CC:={ P:=Tryz.prog,toS:=toS,inl:=fun n => List.elem n ([] : List Nat),dyn:=false,N:=n }
theorem fm {f g : Nat} (fn : Func) (fi : IFn) (h3 : Tryz.prog.funcs[g]? = some fn) (h5 : tbl 1 f = some fi:=by rfl) (h6 : fn.body.bind (compC (C0 fn.ntmps)) = some (erase fi.body):=by kernel_rfl) (h7 : mapO (compRes Tryz.prog) fn.results.toList = some fi.res:=by kernel_rfl) : FnOK f g:=ZkG (C0 fn.ntmps) fn fi rfl rfl h3 rfl h5 h6 h7
noncomputable def cc5 : CC:={ P:=Tryz.prog,toS:=toS,inl:=fun n => List.elem n ([328,337,331] : List Nat),dyn:=false,N:=Tryz.f5.ntmps }
theorem ok5 : FnOK 318 5:=ZkG cc5 Tryz.f5 Zba rfl rfl Tryz.func5 rfl rfl (by kernel_rfl) (by kernel_rfl)
noncomputable def cc7 : CC:={ P:=Tryz.prog,toS:=toS,inl:=fun n => List.elem n ([328,330,335,337,331] : List Nat),dyn:=false,N:=Tryz.f7.ntmps }
theorem ok7 : FnOK 320 7:=ZkG cc7 Tryz.f7 ZbC rfl rfl Tryz.func7 rfl rfl (by kernel_rfl) (by kernel_rfl)
theorem ok15 : FnOK 328 15:=fm Tryz.f15 ZcE Tryz.func15
theorem ok16 : FnOK 27 16:=fm Tryz.f16 Zkc Tryz.func16
noncomputable def cc17 : CC:={ P:=Tryz.prog,toS:=toS,inl:=fun n => List.elem n ([328,330,331] : List Nat),dyn:=false,N:=Tryz.f17.ntmps }
theorem ok17 : FnOK 329 17:=ZkG cc17 Tryz.f17 Zfz rfl rfl Tryz.func17 rfl rfl (by kernel_rfl) (by kernel_rfl)
noncomputable def cc18 : CC:={ P:=Tryz.prog,toS:=toS,inl:=fun n => List.elem n ([360] : List Nat),dyn:=false,N:=Tryz.f18.ntmps }
theorem ok18 : FnOK 330 18:=ZkG cc18 Tryz.f18 Zao rfl rfl Tryz.func18 rfl rfl (by kernel_rfl) (by kernel_rfl)
theorem ok19 : FnOK 185 19:=fm Tryz.f19 Zbf Tryz.func19
noncomputable def cc20 : CC:={ P:=Tryz.prog,toS:=toS,inl:=fun n => List.elem n ([363] : List Nat),dyn:=false,N:=Tryz.f20.ntmps }
theorem ok20 : FnOK 331 20:=ZkG cc20 Tryz.f20 ZaG rfl rfl Tryz.func20 rfl rfl (by kernel_rfl) (by kernel_rfl)
theorem ok21 : FnOK 332 21:=fm Tryz.f21 ZfW Tryz.func21
noncomputable def cc27 : CC:={ P:=Tryz.prog,toS:=toS,inl:=fun n => List.elem n ([360] : List Nat),dyn:=false,N:=Tryz.f27.ntmps }
theorem ok27 : FnOK 335 27:=ZkG cc27 Tryz.f27 Zan rfl rfl Tryz.func27 rfl rfl (by kernel_rfl) (by kernel_rfl)
noncomputable def cc30 : CC:={ P:=Tryz.prog,toS:=toS,inl:=fun n => List.elem n ([368,369] : List Nat),dyn:=false,N:=Tryz.f30.ntmps }
theorem ok30 : FnOK 337 30:=ZkG cc30 Tryz.f30 Zai rfl rfl Tryz.func30 rfl rfl (by kernel_rfl) (by kernel_rfl)
theorem ok31 : FnOK 227 31:=fm Tryz.f31 Zeu Tryz.func31
theorem ok32 : FnOK 149 32:=fm Tryz.f32 Zff Tryz.func32
theorem ok33 : FnOK 150 33:=fm Tryz.f33 Zdd Tryz.func33
theorem ok34 : FnOK 156 34:=fm Tryz.f34 ZfK Tryz.func34
theorem ok35 : FnOK 260 35:=fm Tryz.f35 ZdS Tryz.func35
theorem ok36 : FnOK 338 36:=fm Tryz.f36 ZcF Tryz.func36
theorem ok37 : FnOK 339 37:=fm Tryz.f37 ZbB Tryz.func37
theorem ok38 : FnOK 340 38:=fm Tryz.f38 Zde Tryz.func38
theorem ok45 : FnOK 155 45:=fm Tryz.f45 ZfJ Tryz.func45
theorem ok46 : FnOK 30 46:=fm Tryz.f46 Ziu Tryz.func46
theorem ok49 : FnOK 70 49:=fm Tryz.f49 Zis Tryz.func49
theorem ok50 : FnOK 151 50:=fm Tryz.f50 ZdR Tryz.func50
theorem ok51 : FnOK 69 51:=fm Tryz.f51 Ziq Tryz.func51
theorem ok52 : FnOK 154 52:=fm Tryz.f52 Zir Tryz.func52
theorem ok54 : FnOK 67 54:=fm Tryz.f54 Zbb Tryz.func54
theorem ok55 : FnOK 65 55:=fm Tryz.f55 ZdQ Tryz.func55
theorem ok56 : FnOK 31 56:=fm Tryz.f56 ZgO Tryz.func56
theorem ok57 : FnOK 68 57:=fm Tryz.f57 Zit Tryz.func57
theorem ok58 : FnOK 33 58:=fm Tryz.f58 Ziv Tryz.func58
noncomputable def cc70 : CC:={ P:=Tryz.prog,toS:=toS,inl:=fun n => List.elem n ([368,369] : List Nat),dyn:=false,N:=Tryz.f70.ntmps }
theorem ok70 : FnOK 360 70:=ZkG cc70 Tryz.f70 Zak rfl rfl Tryz.func70 rfl rfl (by kernel_rfl) (by kernel_rfl)
theorem ok71 : FnOK 361 71:=fm Tryz.f71 Zcn Tryz.func71
theorem ok72 : FnOK 362 72:=fm Tryz.f72 Zco Tryz.func72
theorem ok73 : FnOK 252 73:=fm Tryz.f73 Zgf Tryz.func73
noncomputable def cc74 : CC:={ P:=Tryz.prog,toS:=toS,inl:=fun n => List.elem n ([389] : List Nat),dyn:=false,N:=Tryz.f74.ntmps }
theorem ok74 : FnOK 363 74:=ZkG cc74 Tryz.f74 Zay rfl rfl Tryz.func74 rfl rfl (by kernel_rfl) (by kernel_rfl)
theorem ok75 : FnOK 364 75:=fm Tryz.f75 ZbP Tryz.func75
theorem ok81 : FnOK 45 81:=fm Tryz.f81 Zfe Tryz.func81
theorem ok82 : FnOK 46 82:=fm Tryz.f82 Zkb Tryz.func82
theorem ok83 : FnOK 366 83:=fm Tryz.f83 Zcl Tryz.func83
theorem ok84 : FnOK 367 84:=fm Tryz.f84 Zcm Tryz.func84
theorem ok85 : FnOK 257 85:=fm Tryz.f85 Zge Tryz.func85
theorem ok88 : FnOK 368 88:=fm Tryz.f88 Zah Tryz.func88
noncomputable def cc89 : CC:={ P:=Tryz.prog,toS:=toS,inl:=fun n => List.elem n ([391] : List Nat),dyn:=false,N:=Tryz.f89.ntmps }
theorem ok89 : FnOK 369 89:=ZkG cc89 Tryz.f89 Zat rfl rfl Tryz.func89 rfl rfl (by kernel_rfl) (by kernel_rfl)
theorem ok90 : FnOK 169 90:=fm Tryz.f90 ZfA Tryz.func90
theorem ok91 : FnOK 370 91:=.inr ⟨Tryz.f91,.of32,Tryz.func91,by kernel_rfl,by kernel_rfl,by kernel_rfl,by kernel_rfl,rfl⟩
theorem ok92 : FnOK 371 92:=.inr ⟨Tryz.f92,.b32,Tryz.func92,by kernel_rfl,by kernel_rfl,by kernel_rfl,by kernel_rfl,rfl⟩
theorem ok93 : FnOK 372 93:=fm Tryz.f93 Zie Tryz.func93
theorem ok94 : FnOK 373 94:=.inr ⟨Tryz.f94,.of64,Tryz.func94,by kernel_rfl,by kernel_rfl,by kernel_rfl,by kernel_rfl,rfl⟩
theorem ok95 : FnOK 374 95:=.inr ⟨Tryz.f95,.b64,Tryz.func95,by kernel_rfl,by kernel_rfl,by kernel_rfl,by kernel_rfl,rfl⟩
theorem ok96 : FnOK 235 96:=fm Tryz.f96 Zdz Tryz.func96
theorem ok97 : FnOK 19 97:=fm Tryz.f97 Zfi Tryz.func97
theorem ok98 : FnOK 236 98:=fm Tryz.f98 ZeP Tryz.func98
theorem ok99 : FnOK 73 99:=fm Tryz.f99 ZgR Tryz.func99
theorem ok100 : FnOK 283 100:=fm Tryz.f100 ZfM Tryz.func100
theorem ok101 : FnOK 304 101:=fm Tryz.f101 Zes Tryz.func101
theorem ok102 : FnOK 26 102:=fm Tryz.f102 Zkd Tryz.func102
theorem ok103 : FnOK 192 103:=fm Tryz.f103 ZgX Tryz.func103
theorem ok115 : FnOK 63 115:=fm Tryz.f115 ZgQ Tryz.func115
theorem ok116 : FnOK 62 116:=fm Tryz.f116 ZgP Tryz.func116
theorem ok117 : FnOK 102 117:=fm Tryz.f117 Zgm Tryz.func117
theorem ok118 : FnOK 16 118:=fm Tryz.f118 Zdy Tryz.func118
theorem ok119 : FnOK 32 119:=fm Tryz.f119 Zgn Tryz.func119
theorem ok120 : FnOK 158 120:=fm Tryz.f120 Zet Tryz.func120
theorem ok121 : FnOK 44 121:=fm Tryz.f121 Zcx Tryz.func121
theorem ok122 : FnOK 80 122:=fm Tryz.f122 Zgl Tryz.func122
theorem ok123 : FnOK 72 123:=fm Tryz.f123 ZhD Tryz.func123
theorem ok124 : FnOK 99 124:=fm Tryz.f124 Zim Tryz.func124
theorem ok125 : FnOK 100 125:=fm Tryz.f125 Zdp Tryz.func125
theorem ok126 : FnOK 101 126:=fm Tryz.f126 Zin Tryz.func126
theorem ok134 : FnOK 237 134:=fm Tryz.f134 Zbd Tryz.func134
theorem ok135 : FnOK 388 135:=fm Tryz.f135 Zfa Tryz.func135
theorem ok136 : FnOK 268 136:=fm Tryz.f136 ZaL Tryz.func136
theorem ok137 : FnOK 269 137:=fm Tryz.f137 ZcD Tryz.func137
theorem ok138 : FnOK 270 138:=fm Tryz.f138 Zck Tryz.func138
theorem ok139 : FnOK 271 139:=fm Tryz.f139 ZdI Tryz.func139
theorem ok140 : FnOK 272 140:=fm Tryz.f140 Zhx Tryz.func140
theorem ok141 : FnOK 389 141:=.inr ⟨Tryz.f141,.ald,Tryz.func141,by kernel_rfl,by kernel_rfl,by kernel_rfl,by kernel_rfl,rfl⟩
theorem ok147 : FnOK 38 147:=fm Tryz.f147 ZeO Tryz.func147
theorem ok150 : FnOK 83 150:=fm Tryz.f150 Zgk Tryz.func150
theorem ok151 : FnOK 84 151:=fm Tryz.f151 Zfc Tryz.func151
theorem ok152 : FnOK 85 152:=fm Tryz.f152 ZgN Tryz.func152
theorem ok153 : FnOK 277 153:=fm Tryz.f153 Zax Tryz.func153
theorem ok154 : FnOK 195 154:=fm Tryz.f154 ZjW Tryz.func154
theorem ok155 : FnOK 278 155:=fm Tryz.f155 ZcC Tryz.func155
theorem ok156 : FnOK 279 156:=fm Tryz.f156 ZcB Tryz.func156
theorem ok159 : FnOK 391 159:=.inr ⟨Tryz.f159,.aadd,Tryz.func159,by kernel_rfl,by kernel_rfl,by kernel_rfl,by kernel_rfl,rfl⟩
theorem ok160 : FnOK 186 160:=fm Tryz.f160 Zcc Tryz.func160
theorem ok161 : FnOK 18 161:=fm Tryz.f161 Zfk Tryz.func161
theorem ok162 : FnOK 392 162:=.inr ⟨Tryz.f162,.sqrt,Tryz.func162,by kernel_rfl,by kernel_rfl,by kernel_rfl,by kernel_rfl,rfl⟩
theorem ok163 : FnOK 157 163:=fm Tryz.f163 Zfg Tryz.func163
theorem ok164 : FnOK 12 164:=fm Tryz.f164 Zbr Tryz.func164
theorem ok165 : FnOK 42 165:=fm Tryz.f165 ZbG Tryz.func165
theorem ok166 : FnOK 312 166:=fm Tryz.f166 Zix Tryz.func166
theorem ok167 : FnOK 58 167:=fm Tryz.f167 ZgY Tryz.func167
theorem ok168 : FnOK 60 168:=fm Tryz.f168 Zdj Tryz.func168
theorem ok169 : FnOK 95 169:=fm Tryz.f169 Zdq Tryz.func169
theorem ok170 : FnOK 200 170:=fm Tryz.f170 ZaT Tryz.func170
theorem ok171 : FnOK 196 171:=fm Tryz.f171 Ziy Tryz.func171
theorem ok172 : FnOK 189 172:=fm Tryz.f172 Zbu Tryz.func172
theorem ok176 : FnOK 193 176:=fm Tryz.f176 ZgV Tryz.func176
theorem ok183 : FnOK 64 183:=fm Tryz.f183 Zgj Tryz.func183
theorem ok184 : FnOK 82 184:=fm Tryz.f184 Zfd Tryz.func184
theorem ok191 : FnOK 182 191:=fm Tryz.f191 ZjX Tryz.func191
theorem ok197 : FnOK 398 197:=fm Tryz.f197 ZeF Tryz.func197
theorem ok198 : FnOK 289 198:=fm Tryz.f198 ZeT Tryz.func198
theorem ok199 : FnOK 290 199:=fm Tryz.f199 ZeS Tryz.func199
theorem ok200 : FnOK 291 200:=fm Tryz.f200 ZdU Tryz.func200
theorem ok201 : FnOK 292 201:=fm Tryz.f201 ZbY Tryz.func201
theorem ok202 : FnOK 293 202:=fm Tryz.f202 ZbZ Tryz.func202
theorem ok203 : FnOK 294 203:=fm Tryz.f203 ZbO Tryz.func203
theorem ok204 : FnOK 295 204:=fm Tryz.f204 Zbm Tryz.func204
theorem ok205 : FnOK 296 205:=fm Tryz.f205 Zfy Tryz.func205
theorem ok206 : FnOK 54 206:=fm Tryz.f206 Zgc Tryz.func206
theorem ok207 : FnOK 55 207:=fm Tryz.f207 ZmM Tryz.func207
theorem ok212 : FnOK 111 212:=fm Tryz.f212 Zgi Tryz.func212
theorem ok213 : FnOK 302 213:=fm Tryz.f213 ZbJ Tryz.func213
theorem ok214 : FnOK 74 214:=fm Tryz.f214 Zib Tryz.func214
theorem ok215 : FnOK 203 215:=fm Tryz.f215 Zep Tryz.func215
theorem ok216 : FnOK 184 216:=fm Tryz.f216 ZjY Tryz.func216
theorem ok219 : FnOK 8 219:=fm Tryz.f219 Zfj Tryz.func219
theorem ok220 : FnOK 191 220:=fm Tryz.f220 Zdi Tryz.func220
theorem ok221 : FnOK 21 221:=fm Tryz.f221 ZdA Tryz.func221
theorem ok222 : FnOK 22 222:=fm Tryz.f222 Zia Tryz.func222
theorem ok223 : FnOK 43 223:=fm Tryz.f223 Zgd Tryz.func223
theorem ok224 : FnOK 23 224:=fm Tryz.f224 ZeR Tryz.func224
theorem ok225 : FnOK 24 225:=fm Tryz.f225 ZaQ Tryz.func225
theorem ok226 : FnOK 34 226:=fm Tryz.f226 ZfL Tryz.func226
theorem ok227 : FnOK 35 227:=fm Tryz.f227 ZgS Tryz.func227
theorem ok228 : FnOK 10 228:=fm Tryz.f228 Zfh Tryz.func228
theorem ok229 : FnOK 36 229:=fm Tryz.f229 Zbz Tryz.func229
theorem ok230 : FnOK 37 230:=fm Tryz.f230 Zip Tryz.func230
theorem ok231 : FnOK 14 231:=fm Tryz.f231 Zdx Tryz.func231
theorem ok232 : FnOK 115 232:=fm Tryz.f232 ZeU Tryz.func232
theorem ok233 : FnOK 204 233:=fm Tryz.f233 ZcK Tryz.func233
theorem ok237 : FnOK 194 237:=fm Tryz.f237 ZdC Tryz.func237
theorem ok239 : FnOK 201 239:=fm Tryz.f239 ZbE Tryz.func239
theorem ok240 : FnOK 57 240:=fm Tryz.f240 Ziz Tryz.func240
theorem ok241 : FnOK 197 241:=fm Tryz.f241 ZhA Tryz.func241
theorem ok245 : FnOK 307 245:=fm Tryz.f245 ZaX Tryz.func245
theorem ok246 : FnOK 308 246:=fm Tryz.f246 ZbK Tryz.func246
theorem ok247 : FnOK 309 247:=fm Tryz.f247 ZaO Tryz.func247
noncomputable def cc248 : CC:={ P:=Tryz.prog,toS:=toS,inl:=fun n => List.elem n ([313] : List Nat),dyn:=false,N:=Tryz.f248.ntmps }
theorem ok248 : FnOK 310 248:=ZkG cc248 Tryz.f248 ZhE rfl rfl Tryz.func248 rfl rfl (by kernel_rfl) (by kernel_rfl)
theorem ok249 : FnOK 15 249:=fm Tryz.f249 Ziw Tryz.func249
theorem ok250 : FnOK 86 250:=fm Tryz.f250 Zhz Tryz.func250
theorem ok251 : FnOK 90 251:=fm Tryz.f251 Zjf Tryz.func251
theorem ok252 : FnOK 50 252:=fm Tryz.f252 Zcu Tryz.func252
theorem ok253 : FnOK 94 253:=fm Tryz.f253 ZfV Tryz.func253
theorem ok255 : FnOK 48 255:=fm Tryz.f255 Zdv Tryz.func255
theorem ok256 : FnOK 205 256:=fm Tryz.f256 Zhy Tryz.func256
theorem ok257 : FnOK 49 257:=fm Tryz.f257 Zje Tryz.func257
theorem ok258 : FnOK 207 258:=fm Tryz.f258 ZkC Tryz.func258
theorem ok259 : FnOK 208 259:=fm Tryz.f259 Zeq Tryz.func259
theorem ok260 : FnOK 198 260:=fm Tryz.f260 Zfx Tryz.func260
theorem ok261 : FnOK 25 261:=fm Tryz.f261 ZdV Tryz.func261
theorem ok262 : FnOK 47 262:=fm Tryz.f262 ZeQ Tryz.func262
theorem ok263 : FnOK 75 263:=fm Tryz.f263 Zgz Tryz.func263
theorem ok264 : FnOK 81 264:=fm Tryz.f264 ZhB Tryz.func264
theorem ok265 : FnOK 78 265:=fm Tryz.f265 Zid Tryz.func265
theorem ok266 : FnOK 51 266:=fm Tryz.f266 Zlc Tryz.func266
theorem ok267 : FnOK 52 267:=fm Tryz.f267 ZaI Tryz.func267
theorem ok268 : FnOK 53 268:=fm Tryz.f268 Zbe Tryz.func268
theorem ok269 : FnOK 56 269:=fm Tryz.f269 ZhF Tryz.func269
theorem ok270 : FnOK 66 270:=fm Tryz.f270 ZbX Tryz.func270
theorem ok271 : FnOK 71 271:=fm Tryz.f271 ZgT Tryz.func271
theorem ok272 : FnOK 39 272:=fm Tryz.f272 Zdw Tryz.func272
theorem ok274 : FnOK 202 274:=fm Tryz.f274 ZdW Tryz.func274
theorem ok275 : FnOK 96 275:=fm Tryz.f275 Zdk Tryz.func275
theorem ok276 : FnOK 98 276:=fm Tryz.f276 ZfN Tryz.func276
theorem ok277 : FnOK 106 277:=fm Tryz.f277 Zle Tryz.func277
theorem ok278 : FnOK 117 278:=fm Tryz.f278 Zih Tryz.func278
theorem ok279 : FnOK 113 279:=fm Tryz.f279 Zlf Tryz.func279
noncomputable def cc284 : CC:={ P:=Tryz.prog,toS:=toS,inl:=fun n => List.elem n ([] : List Nat),dyn:=true,N:=Tryz.f284.ntmps }
theorem ok284 : FnOK 313 284:=ZkG cc284 Tryz.f284 ZdX rfl rfl Tryz.func284 rfl rfl (by kernel_rfl) (by kernel_rfl)
theorem ok285 : FnOK 315 285:=fm Tryz.f285 ZgW Tryz.func285
theorem ok286 : FnOK 40 286:=fm Tryz.f286 ZjZ Tryz.func286
theorem ok287 : FnOK 114 287:=fm Tryz.f287 (ZaZ 1) Tryz.func287
theorem ok288 : FnOK 89 288:=fm Tryz.f288 ZhC Tryz.func288
noncomputable def cc289 : CC:={ P:=Tryz.prog,toS:=toS,inl:=fun n => List.elem n ([94] : List Nat),dyn:=false,N:=Tryz.f289.ntmps }
theorem ok289 : FnOK 91 289:=ZkG cc289 Tryz.f289 ZgM rfl rfl Tryz.func289 rfl rfl (by kernel_rfl) (by kernel_rfl)
theorem ok291 : FnOK 87 291:=fm Tryz.f291 ZdH Tryz.func291
theorem ok292 : FnOK 88 292:=fm Tryz.f292 Zcs Tryz.func292
theorem ok293 : FnOK 103 293:=fm Tryz.f293 Zld Tryz.func293
theorem ok294 : FnOK 105 294:=fm Tryz.f294 Zjd Tryz.func294
theorem ok295 : FnOK 209 295:=fm Tryz.f295 Zic Tryz.func295
theorem ok296 : FnOK 104 296:=fm Tryz.f296 Zlb Tryz.func296
theorem ok297 : FnOK 59 297:=fm Tryz.f297 ZcI Tryz.func297
theorem ok298 : FnOK 77 298:=fm Tryz.f298 Zct Tryz.func298
theorem ok299 : FnOK 112 299:=fm Tryz.f299 Zgw Tryz.func299
theorem ok300 : FnOK 107 300:=fm Tryz.f300 Zgg Tryz.func300
theorem ok301 : FnOK 92 301:=fm Tryz.f301 ZgU Tryz.func301
theorem ok302 : FnOK 93 302:=fm Tryz.f302 ZdB Tryz.func302
theorem ok303 : FnOK 97 303:=fm Tryz.f303 ZcJ Tryz.func303
theorem ok306 : FnOK 76 306:=fm Tryz.f306 ZkD Tryz.func306
theorem ok307 : FnOK 116 307:=fm Tryz.f307 Zlg Tryz.func307
theorem ok308 : FnOK 108 308:=fm Tryz.f308 Zij Tryz.func308
noncomputable def cc309 : CC:={ P:=Tryz.prog,toS:=toS,inl:=fun n => List.elem n ([91,120] : List Nat),dyn:=false,N:=Tryz.f309.ntmps }
theorem ok309 : FnOK 109 309:=ZkG cc309 Tryz.f309 Zka rfl rfl Tryz.func309 rfl rfl (by kernel_rfl) (by kernel_rfl)
theorem ok311 : FnOK 121 311:=fm Tryz.f311 Zgy Tryz.func311
theorem ok312 : FnOK 118 312:=fm Tryz.f312 Zgx Tryz.func312
theorem ok313 : FnOK 119 313:=fm Tryz.f313 ZbA Tryz.func313
theorem ok314 : FnOK 120 314:=fm Tryz.f314 Zer Tryz.func314
theorem ZEu : AllP FnOK lnk:=⟨ok5,ok7,ok15,ok16,ok17,ok18,ok19,ok20,ok21,ok27,ok30,ok31,ok32,ok33,ok34,ok35,ok36,ok37,ok38,ok45,ok46,ok49,ok50,ok51,ok52,ok54,ok55,ok56,ok57,ok58,ok70,ok71,ok72,ok73,ok74,ok75,ok81,ok82,ok83,ok84,ok85,ok88,ok89,ok90,ok91,ok92,ok93,ok94,ok95,ok96,ok97,ok98,ok99,ok100,ok101,ok102,ok103,ok115,ok116,ok117,ok118,ok119,ok120,ok121,ok122,ok123,ok124,ok125,ok126,ok134,ok135,ok136,ok137,ok138,ok139,ok140,ok141,ok147,ok150,ok151,ok152,ok153,ok154,ok155,ok156,ok159,ok160,ok161,ok162,ok163,ok164,ok165,ok166,ok167,ok168,ok169,ok170,ok171,ok172,ok176,ok183,ok184,ok191,ok197,ok198,ok199,ok200,ok201,ok202,ok203,ok204,ok205,ok206,ok207,ok212,ok213,ok214,ok215,ok216,ok219,ok220,ok221,ok222,ok223,ok224,ok225,ok226,ok227,ok228,ok229,ok230,ok231,ok232,ok233,ok237,ok239,ok240,ok241,ok245,ok246,ok247,ok248,ok249,ok250,ok251,ok252,ok253,ok255,ok256,ok257,ok258,ok259,ok260,ok261,ok262,ok263,ok264,ok265,ok266,ok267,ok268,ok269,ok270,ok271,ok272,ok274,ok275,ok276,ok277,ok278,ok279,ok284,ok285,ok286,ok287,ok288,ok289,ok291,ok292,ok293,ok294,ok295,ok296,ok297,ok298,ok299,ok300,ok301,ok302,ok303,ok306,ok307,ok308,ok309,ok311,ok312,ok313,ok314,trivial⟩
theorem ZHs : ProgOK Tryz.prog L0 (tbl 1):=⟨fun f g h => AllP.of ZEu f g h⟩
theorem mixed : Tryz.prog.follows .mixedOrders = true:=by kernel_rfl
end Go.Proofs.YtddmoldiopnifaaGreatDoor
namespace Go.Proofs.YtddmoldiopnifaaGreatDoor
open Go Go.Cv Go.ChangeShapes Go.WideShapes Go.ChangeAt Go.WideMaps Go.WideElems Go.RowKit
theorem own : ownKnob Tryz.prog.godebug = none:=by kernel_rfl
theorem laidOut : laidOutB Tryz.prog = true:=by kernel_rfl
theorem gTab : Tryz.prog.globalNamed "math/bits.deBruijn32tab" = some 1:=by kernel_rfl
theorem tTab : (Tryz.prog.globals[1]?).map (·.type) = some 355:=by kernel_rfl
def laid1 : List (String × DataW Unit):=[("math/bits.deBruijn32tab",Rows.laid_math_bits_deBruijn32tab)]
theorem ZGT (os : Os) (args : Array Value) : laidMetH Tryz.prog laid1 ((World.doorLaid Tryz.prog 400 os).forCall (fun _ _ => 0) ⟨#[],args,[]⟩).memory :=
 laidMetH_of_parts3 (fuel:=8) (laidMet_of_run' 8 (by kernel_rfl) (by kernel_rfl)) (by kernel_rfl) (by kernel_rfl)
theorem ZHl {W : World} (h : laidMetH Tryz.prog laid1 W) : Gok (glb 1) ⟨L0,W,fun r => r < W.heap.size,noι⟩:=by
 rw [MakeChecks.laidMetH_plain _ _ _ (by kernel_rfl)] at h
 obtain ⟨ps,⟨g0,t0,cs0,f0,p0,q0,hg0,ht0,hv0,hd0,_,_⟩,_,_⟩:=h
 obtain rfl:=Option.some.inj (gTab.symm.trans hg0)
 obtain rfl:=Option.some.inj (tTab.symm.trans ht0)
 have hc:=ZGH (l:=ntz32) (e:=5) (show Tryz.prog.underlying 355 = some (.array ntz32.length 5) by kernel_rfl) (show Tryz.prog.underlying 5 = some (.int .u8) by kernel_rfl) (by kernel_rfl) hd0
 exact ZFp (fun j d hj => by rw [World.var?_cell hg0 hv0 j]; exact hc j d hj) (by decide)
theorem and2 {a b : Bool} (h : a = true) (k : b = true) : (a && b) = true:=by rw [h,k]; rfl
theorem jMaps : mapsRowed Tryz.prog = true:=by kernel_rfl
theorem jHeard : Tryz.prog.stopsHeard = true:=by kernel_rfl
theorem jEnter : Tryz.prog.mayEnter = true:=by kernel_rfl
end Go.Proofs.YtddmoldiopnifaaGreatDoor
