/-
 A part of the proof of the statements of this seat (texts that the law's own text leans on): no condition.
-/
import Derived.Test.YtnomgajekgfgaaaGreatDoorM2
import Derived.Laws.StructEq
import Derived.RangeFuncCalls
import Derived.OrdersIn
import Derived.LoopNIn
set_option linter.unusedVariables false
set_option linter.unusedSimpArgs false
namespace Go.Cv
theorem Zkk {P : Program} {t : TypeId} {z : List AV} (h : zeroC P t = some z) : ∃ (i : TypeInfo) (zv : Value),P.info? t = some i∧i.zero = some zv∧zv.cells.size = i.size∧mapO avC zv.cells.toList = some z:=by
 unfold zeroC at h
 split at h
 ·next i hi =>
  split at h
  ·next zv hz =>
   split at h
   ·next hs => exact ⟨i,zv,hi,hz,hs,h⟩
   ·cases h
  ·cases h
 ·cases h
theorem ZhH {P : Program} {t : TypeId} {i : TypeInfo} {zv : Value} (hi : P.info? t = some i) (hz : i.zero = some zv) (w : World) : (zeroValue t).run P w = .ok zv w:=by simp [zeroValue,typeInfo,hi,hz]
theorem ZrT {P : Program} {A : Nat→Prop} {n0 : Nat} {S : Sc} {hp : Mem} {fz : Nat→Prop} (H : HR A n0 S hp fz) {p : Nat} (hn : S.ι p = none) {cs : List AV} (hpp : hp p = some ⟨cs,false⟩) {u : Value} (hu : RelL S.ny cs u.cells.toList) (h1 : ∀ x ∈ u.cells.toList,x.oneCell' = true) (t : TypeId) :
  ∃ w',(newVar t u).run P S.w = .ok ⟨S.w.heap.size,0,none⟩ w'∧ResQ A n0 S p [⟨cs,false⟩] (.ptr p 0) hp fz (.pointer (some ⟨S.w.heap.size,0,none⟩)) w':=by
 have ok:=Ok.alloc H hn hpp (c:=u.cells) t hu h1 (fun j v hj => by simpa using hj) (by simp)
 refine ⟨S.w.alloc (.cells u.cells t),by simp [newVar,newRow],_,rfl,ok,?_,fun b hb => by simp at hb; simp [Sc.new,hb]⟩
 simp only [Rel]
 exact ⟨⟨S.w.heap.size,0,cs.length,u.cells.size⟩,by simp [Sc.new],rfl⟩
theorem ZwT (z : List AV) : ∀ (n j : Nat),j < n * z.length→(repA n z)[j]? = z[j % z.length]?
 | 0,j,h => by simp at h
 | n + 1,j,h => by
  have e : repA (n + 1) z = z ++ repA n z:=by simp [repA,List.replicate_succ]
  rw [e]
  by_cases hj : j < z.length
  ·rw [List.getElem?_append_left hj,Nat.mod_eq_of_lt hj]
  ·rw [Nat.succ_mul] at h
   have hm : j % z.length = (j - z.length) % z.length:=Nat.mod_eq_sub_mod (by omega)
   rw [List.getElem?_append_right (by omega),ZwT z n (j - z.length) (by omega),hm]
theorem Zlj (n : Nat) (z : List AV) : (repA n z).length = n * z.length:=by simp [repA]
theorem ZwU {S : Sc} {z : List AV} {zs : Array Value} (hz : RelL S z zs.toList) (n : Nat) : RelL S (repA n z) ((Array.range (n * zs.size)).map (zs[· % zs.size]!)).toList:=by
 have hl:=Zat hz
 simp only [Array.length_toList] at hl
 refine Zrf (by simp [Zlj,hl]) fun j v u hv hu => ?_
 have hj : j < n * z.length:=by rw [← Zlj n z]; exact (List.getElem?_eq_some_iff.1 hv).1
 rw [ZwT z n j hj] at hv
 rw [Array.toList_map,List.getElem?_map,Option.map_eq_some_iff] at hu
 obtain ⟨x,hx,rfl⟩:=hu
 have hx' : x = j:=by
  rw [Array.toList_range] at hx
  have:=List.getElem?_range (n:=n * zs.size) (i:=j) (by rw [hl]; exact hj)
  rw [this] at hx; cases hx; rfl
 subst hx'
 obtain ⟨u,hu1,hu2⟩:=ZhG hz _ v hv
 rw [hl]
 have : zs[x % z.length]! = u:=by
  rw [Array.getElem!_eq_getD,Array.getD_eq_getD_getElem?]
  have : zs[x % z.length]? = some u:=by simpa using hu1
  rw [this]; rfl
 rw [this]; exact hu2
theorem Ztb {S : Sc} {vs : List AV} {us : List Value} (h : RelL S vs us) (hv : vs.all okCell = true) : ∀ x ∈ us,x.oneCell' = true:=by
 induction vs generalizing us with
 | nil => intro x hx; simp only [RelL] at h; subst h; cases hx
 | cons v vs ih =>
  intro x hx
  simp only [RelL] at h
  obtain ⟨u,r,rfl,h1,h2⟩:=h
  simp only [List.all_cons,Bool.and_eq_true] at hv
  rcases List.mem_cons.1 hx with rfl | hx
  ·exact ZoO h1 hv.1
  ·exact ih h2 hv.2 x hx
theorem ZFy {z : List AV} (hz : z.all okCell = true) (n : Nat) : (repA n z).all okCell = true:=by
 rw [List.all_eq_true]
 intro x hx
 simp only [repA,List.mem_flatten] at hx
 obtain ⟨l,hl,hx⟩:=hx
 rw [List.eq_of_mem_replicate hl] at hx
 exact List.all_eq_true.1 hz x hx
def OptRel (S : Sc) : Option AV→Option Value→Prop
 | none,none => True
 | some v,some u => Rel S v u
 | _,_ => False
theorem ZtE {P : Program} {S : Sc} {d : Nat} {x : Option AV} {n : Int} (h : bound d x = some n) {u : Option Value} (hu : OptRel S x u) (y : Nat) (code : BoundsCode) (h0 : 0≤n) (h1 : n≤y) (w : World) :
  (match u with | some v => Instr.sliceBound v y code | none => pure d : Sem Nat).run P w = .ok n.toNat w:=by
 unfold bound at h
 cases x with
 | none =>
  cases u with
  | none => cases h; simp
  | some u => exact hu.elim
 | some v =>
  cases u with
  | none => exact hu.elim
  | some u =>
   cases v <;> simp only [Option.some.injEq,reduceCtorEq] at h
   subst h
   simp only [OptRel,Rel] at hu
   subst hu
   exact run_sliceBound _ _ _ _ _ h0 h1
theorem ZCv {P : Program} {A : Nat→Prop} {n0 : Nat} {S : Sc} {hp h : Mem} {fz : Nat→Prop} (H : HR A n0 S hp fz) (hle : ∀ b k,h b = some k→hp b = some k) {sz : Nat} {x v : AV} {lo hi : Option AV} (hev : evSlice h sz x lo hi = some v) {ux : Value} (hx : Rel S x ux)
  {ulo uhi : Option Value} (hlo : OptRel S lo ulo) (hhi : OptRel S hi uhi)
  {t e : TypeId} {i : TypeInfo} (ht : P.underlying t = some (.slice e)) (hin : P.info? e = some i) (hsz : i.size = sz) :
  ∃ u,(Instr.sliceAt t ux ulo uhi none).run P S.w = .ok u S.w∧Rel S v u:=by
 subst hsz
 unfold evSlice at hev
 split at hev
 ·next n c hn hc =>
  split at hev
  ·next l u hl hu =>
   split at hev
   ·next hb =>
    obtain ⟨hl0,hlu,huc⟩:=hb
    -- the machine's slice,its length and room
    have hmach : ∃ a cap,ux = .slice a n cap∧c≤cap:=by
     cases x <;> simp only [lenA,capA,Option.some.injEq,reduceCtorEq] at hn hc <;> simp only [Rel] at hx
     ·subst hn; subst hc; exact ⟨none,0,hx,Nat.le_refl _⟩
     ·subst hn; subst hc
      obtain ⟨a,c,rfl,hle,_⟩:=hx
      exact ⟨a,c,rfl,hle⟩
     ·subst hn
      obtain ⟨bi,cap,hbi,rfl,hnc,hcap,hlen⟩:=hx
      refine ⟨_,cap,rfl,?_⟩
      split at hc
      ·next k hk =>
       split at hc
       ·cases hc
       ·have B:=H.blk _ k bi (hle _ _ hk) hbi
        have hkl:=B.len
        simp only [Option.some.injEq] at hc
        split at hc
        ·omega
        ·next hs =>
         subst hc
         refine Nat.max_le.2 ⟨hnc,?_⟩
         refine Nat.div_le_of_le_mul ?_
         rw [Nat.mul_comm]; omega
      ·cases hc
    obtain ⟨a,cap,rfl,hccap⟩:=hmach
    have hrun : (Instr.sliceAt t (.slice a n cap) ulo uhi none).run P S.w = .ok (.slice (if cap = l.toNat then a else a.map (·.add (l.toNat * i.size))) (u.toNat - l.toNat) (cap - l.toNat)) S.w:=by
     have b1:=ZtE (P:=P) hu hhi cap .sliceAcap (by omega) (by omega) S.w
     have b2:=ZtE (P:=P) hl hlo u.toNat .sliceB hl0 (by omega) S.w
     unfold Instr.sliceAt
     simp only [Sem.run_bind,run_underlying ht,Result.andThen_ok]
     unfold Instr.slice
     simp only [Sem.run_bind,run_underlying ht,Result.andThen_ok]
     unfold Instr.sliceBounds
     cases ulo <;> cases uhi <;> simp_all [sizeOf,typeInfo]
    refine ⟨_,hrun,?_⟩
    have hul : u.toNat - l.toNat = (u - l).toNat:=by omega
    rw [hul]
    cases x <;> simp only [reduceCtorEq,Option.some.injEq] at hev <;> simp only [Rel] at hx
    case nil =>
     subst hev
     simp only [Value.slice.injEq] at hx
     obtain ⟨rfl,rfl,rfl⟩:=hx
     simp only [capA,Option.some.injEq] at hc
     subst hc
     have : l = 0:=by omega
     have : u = 0:=by omega
     subst l; subst u
     simp [Rel]
    case imm n' cs =>
     split at hev
     ·next hcl =>
      cases hev
      obtain ⟨a',c',he,hle,hx⟩:=hx
      simp only [Value.slice.injEq] at he
      obtain ⟨rfl,rfl,rfl⟩:=he
      simp only [capA,Option.some.injEq] at hc
      subst hc
      simp only [Rel]
      refine ⟨_,_,rfl,by omega,?_⟩
      by_cases hcl' : cap = l.toNat
      ·left
       have : (u - l).toNat = 0:=by omega
       simp [this]
      ·rw [if_neg hcl']
       rcases hx with rfl | ⟨r,o,rfl,hro,hx⟩
       ·left; simp
       ·right
        exact ⟨r,o + l.toNat * i.size,by simp [ZeR],hro,ZlZ hx _ _⟩
     ·cases hev
    case own b off n' s =>
     split at hev
     ·next hs =>
      obtain ⟨rfl,hl'⟩:=hs
      cases hev
      obtain ⟨bi,cap',hbi,he,hle,hcap,hlen⟩:=hx
      simp only [Value.slice.injEq] at he
      obtain ⟨rfl,rfl,rfl⟩:=he
      simp only [Rel]
      have hmul : l.toNat * i.size + (cap - l.toNat) * i.size = cap * i.size:=by rw [← Nat.add_mul]; congr 1; omega
      refine ⟨bi,cap - l.toNat,hbi,?_,by omega,by omega,by omega⟩
      by_cases hcl' : cap = l.toNat
      ·have : l = 0:=by omega
       subst this
       rw [if_pos hcl']; simp
      ·rw [if_neg hcl']; simp [ZeR,Nat.add_assoc]
     ·cases hev
   ·cases hev
  ·cases hev
 ·cases hev
end Go.Cv
namespace Go.Cv
theorem Zkh {C : CC} {S : Sc} (hL : Link C S.L) {e : Env} {a : Act} (hE : EnvR S C.N e a) {xs : Array Operand} {ys : List IOpd} (h : mapO (compOpd C) xs.toList = some ys) :
  RelL S (ys.map (opd e)) (xs.map a.eval).toList:=by
 rw [Array.toList_map]; exact ZCb hL hE h
section
variable {C : CC} {A : Nat→Prop} {n0 : Nat} {S : Sc} {hp h : Mem} {fz : Nat→Prop} {p : Nat} {δ : List Blk} {fr : List Nat} {e : Env} {a : Act} {G : Nat→Option (List AV)} {F : CallF} {v : AV}
theorem ZuQ {P : Program} {t : TypeId} {i : TypeInfo} (hi : P.info? t = some i) {u : Value} (hs : u.cells.size = i.size) (ad : Addr) (w : World) : (storeVar t ad u).run P w = (storeCells ad u.cells.toList).run P w:=by
 simp [storeVar,sizeOf,typeInfo,hi,hs]
theorem ZBF {P : Program} {t el : TypeId} {inf : TypeInfo} (ht : P.underlying t = some (.slice el)) (hin : P.info? el = some inf) {x : AV} {k : IntKind} {j : Int} {r : AV × List Blk × List Nat}
  (hev : (match x with
   | .imm n cs => if 0≤j∧j < (n : Int)∧0 < inf.size∧cs.length = n * inf.size then some (AV.iptr cs (j.toNat * inf.size),[],[]) else none
   | .own b off n s => if 0≤j∧j < (n : Int)∧s = inf.size then some (AV.ptr b (off + j.toNat * inf.size),[],[]) else none
   | _ => none) = some r) {ux : Value} (hx : Rel S x ux) :
  r.2 = ([],[])∧∃ u,(Instr.indexAt t ux (.int k j)).run P S.w = .ok u S.w∧Rel S r.1 u:=by
 have run : ∀ (r o n c : Nat),0≤j→j < (n : Int)→(Instr.indexAt t (.slice (some ⟨r,o,none⟩) n c) (.int k j)).run P S.w = .ok (.pointer (some ⟨r,o + j.toNat * inf.size,none⟩)) S.w:=by
  intro r o n c h0 h1
  simp [Instr.indexAt,asIntOf,run_underlying ht,h0,h1,sizeOf,typeInfo,hin,ZeR]
 cases x <;> simp only [reduceCtorEq] at hev <;> simp only [Rel] at hx
 case imm n cs =>
  split at hev
  ·next hc =>
   obtain ⟨h0,h1,hp,h2'⟩:=hc
   cases hev
   obtain ⟨ad,c,rfl,hle,hx⟩:=hx
   refine ⟨rfl,?_⟩
   rcases hx with rfl | ⟨r,o,rfl,hro,hx⟩
   ·have : 0 < n * inf.size:=Nat.mul_pos (by omega) hp
    simp at h2'; omega
   ·exact ⟨_,run r o n c h0 h1,by simp only [Rel]; exact ⟨r,o,rfl,.inr ⟨hro,hx⟩⟩⟩
  ·cases hev
 case own b off n s =>
  split at hev
  ·next hc =>
   obtain ⟨h0,h1,rfl⟩:=hc
   cases hev
   obtain ⟨bi,c,hbi,rfl,hle,hcap,hlen⟩:=hx
   exact ⟨rfl,_,run _ _ n c h0 h1,by simp only [Rel]; exact ⟨bi,hbi,by rw [Nat.add_assoc]⟩⟩
  ·cases hev
theorem ZFF {P : Program} {t : TypeId} (ht : P.underlying t = some .bool) (neg : Bool) (x y : Bool) (ox oy : Operand) (w : World) :
  ((do eqGuard (if neg then .neq else .eql) t ox oy (.bool x) (.bool y); binOp (if neg then .neq else .eql) t (.bool x) (.bool y) : Sem Value)).run P w = .ok (.bool (if neg then x != y else x == y)) w:=by
 cases neg
 ·simp only [Bool.false_eq_true,if_false,Sem.run_bind]
  rw [show (eqGuard BinOp.eql t ox oy (.bool x) (.bool y)).run P w = .ok () w by simp [eqGuard]]
  simp [run_eql_bool (w:=w) t x y ht]
 ·simp only [if_true,Sem.run_bind]
  rw [show (eqGuard BinOp.neq t ox oy (.bool x) (.bool y)).run P w = .ok () w by simp [eqGuard]]
  simp [run_neq_bool (w:=w) t x y ht,bne]
theorem ZmU : ∀ {A B A' B' : List AV},A.length = B.length→eqCells (A ++ A') (B ++ B') = (eqCells A B).bind fun r => (eqCells A' B').map fun q => r && q
 | [],[],A',B',_ => by simp [eqCells]
 | x :: A,y :: B,A',B',h => by
  have ih:=ZmU (A:=A) (B:=B) (A':=A') (B':=B') (by simpa using h)
  cases x <;> cases y <;> simp only [List.cons_append,eqCells,Option.bind_none] <;> rw [ih]
  ·split
   ·cases eqCells A B <;> simp [Option.bind,Bool.and_assoc,Function.comp_def]
   ·simp
  ·cases eqCells A B <;> simp [Option.bind,Bool.and_assoc,Function.comp_def]
theorem Zco : ∀ {ls : List Bool} {A : List AV},kindsA ls A = true→A.length = ls.length
 | [],[],_ => rfl
 | [],_ :: _,h => by simp [kindsA] at h
 | b :: ls,[],h => by cases b <;> simp [kindsA] at h
 | b :: ls,x :: A,h => by
  cases b <;> cases x <;> simp only [kindsA,Bool.false_eq_true] at h <;> simp only [List.length_cons] <;> rw [Zco h]
theorem ZnU {l1 l2 : List Bool} : ∀ {A : List AV},kindsA (l1 ++ l2) A = true→kindsA l1 (A.take l1.length) = true∧kindsA l2 (A.drop l1.length) = true:=by
 induction l1 with
 | nil => exact fun h => ⟨rfl,h⟩
 | cons b l1 ih =>
  intro A h
  cases A with
  | nil => cases b <;> simp [kindsA] at h
  | cons x A => cases b <;> cases x <;> simp only [List.cons_append,kindsA,Bool.false_eq_true] at h <;> exact ih h
theorem ZtR {P : Program} {S : Sc} {D : Nat} {go : TypeId→Option (List Bool)} {W : World}
  (hgo : ∀ (t : TypeId) (ls : List Bool),go t = some ls→∃ g,aggT P t = some g∧(g = false→ls.length = 1)∧∀ (A B : List AV) (v w : AV) (u u' : Value) (r : Bool),kindsA ls A = true→kindsA ls B = true→one g A = some v→one g B = some w→Rel S v u→Rel S w u'→eqCells A B = some r→(Op.equalIn D t u u').run P W = .ok r W)
  {A B : List AV} {us us' : Array Value} (hA : RelL S A us.toList) (hB : RelL S B us'.toList) :
  ∀ (fs : List Field) (off : Nat) (ls : List Bool) (r : Bool),leavesF P go off fs = some ls→kindsA ls (A.drop off) = true→kindsA ls (B.drop off) = true→off≤A.length→off≤B.length→eqCells (A.drop off) (B.drop off) = some r→(Op.eqFields D us us' fs).run P W = .ok r W
 | [],off,ls,r,h,ka,kb,_,_,hr => by
  simp only [leavesF,Option.some.injEq] at h
  subst h
  have n1:=Zco ka
  have n2:=Zco kb
  rw [List.eq_nil_of_length_eq_zero n1,List.eq_nil_of_length_eq_zero n2] at hr
  simp only [eqCells,Option.some.injEq] at hr
  subst hr
  simp [Op.eqFields]
 | f :: fs,off,ls,r,h,ka,kb,oa,ob,hr => by
  rw [leavesF] at h
  split at h
  ·next hc =>
   obtain ⟨h1,h2⟩:=hc
   split at h
   ·next l i hl1 hi =>
    split at h
    ·next hs =>
     simp only [Option.map_eq_some_iff] at h
     obtain ⟨l',hl',rfl⟩:=h
     obtain ⟨g,hg,hg1,hk⟩:=hgo f.type l hl1
     have la:=Zco ka
     have lb:=Zco kb
     rw [List.length_append,List.length_drop] at la lb
     obtain ⟨ka1,ka2⟩:=ZnU ka
     obtain ⟨kb1,kb2⟩:=ZnU kb
     rw [List.drop_drop] at ka2 kb2
     have e1 : A.drop off = (A.drop off).take l.length ++ A.drop (off + l.length):=by rw [← List.drop_drop,List.take_append_drop]
     have e2 : B.drop off = (B.drop off).take l.length ++ B.drop (off + l.length):=by rw [← List.drop_drop,List.take_append_drop]
     have n1:=Zco ka1
     have n2:=Zco kb1
     rw [e1,e2,ZmU (by rw [n1,n2])] at hr
     cases hq1 : eqCells ((A.drop off).take l.length) ((B.drop off).take l.length) with
     | none => rw [hq1] at hr; cases hr
     | some r1 =>
      rw [hq1,Option.bind_some] at hr
      simp only [Option.map_eq_some_iff] at hr
      obtain ⟨r2,hr2,rfl⟩:=hr
      have one_ex : ∀ C : List AV,C.length = l.length→∃ v,one g C = some v:=fun C hC => by
       cases g
       ·have:=hg1 rfl
        obtain ⟨x,rfl⟩:=List.length_eq_one_iff.1 (hC.trans this)
        exact ⟨_,rfl⟩
       ·exact ⟨_,rfl⟩
      obtain ⟨v,hv⟩:=one_ex _ n1
      obtain ⟨w,hw⟩:=one_ex _ n2
      have gs : (g || i.size == 1) = true:=by
       cases g
       ·simp [hs,hg1 rfl]
       ·rfl
      obtain ⟨u,hu1,hu2⟩:=Zjm hg hi gs hA (off:=off) (by omega) (v:=v) (by rw [hs]; exact hv) W
      obtain ⟨u',hu1',hu2'⟩:=Zjm hg hi gs hB (off:=off) (by omega) (v:=w) (by rw [hs]; exact hw) W
      have hE:=hk _ _ v w u u' r1 ka1 kb1 hv hw hu2 hu2' hq1
      have ih:=ZtR hgo hA hB fs (off + l.length) l' r2 hl' ka2 kb2 (by omega) (by omega) hr2
      rw [Op.eqFields,if_pos h1]
      subst h2
      simp only [Sem.run_bind,hu1,hu1',Result.andThen_ok,hE]
      cases r1
      ·simp
      ·simp only [Bool.not_true,Bool.false_eq_true,if_false,Bool.true_and]
       exact ih
    ·cases h
   ·cases h
  ·cases h
theorem Zuc {P : Program} {S : Sc} {W : World} : ∀ (d D : Nat) (t : TypeId) (ls : List Bool),d≤D→leavesC P d t = some ls→∃ g,aggT P t = some g∧(g = false→ls.length = 1) ∧
  ∀ (A B : List AV) (v w : AV) (u u' : Value) (r : Bool),kindsA ls A = true→kindsA ls B = true→one g A = some v→one g B = some w→Rel S v u→Rel S w u'→eqCells A B = some r→(Op.equalIn D t u u').run P W = .ok r W
 | 0,_,_,_,_,h => by cases h
 | d + 1,D,t,ls,hD,h => by
  obtain ⟨D,rfl⟩ : ∃ D',D = D' + 1:=⟨D - 1,by omega⟩
  rw [leavesC] at h
  split at h
  ·next k hk =>
   cases h
   refine ⟨false,by simp [aggT,hk],fun _ => rfl,fun A B v w u u' r hA hB hv hw h1 h2 hr => ?_⟩
   obtain ⟨x,rfl⟩:=List.length_eq_one_iff.1 (Zco hA)
   obtain ⟨y,rfl⟩:=List.length_eq_one_iff.1 (Zco hB)
   cases hv; cases hw
   cases v <;> simp only [kindsA,Bool.false_eq_true] at hA
   cases w <;> simp only [kindsA,Bool.false_eq_true] at hB
   simp only [eqCells] at hr
   split at hr
   ·next hkk =>
    subst hkk
    simp only [Option.map_some,Option.some.injEq,Bool.and_true] at hr
    simp only [Rel] at h1 h2
    subst h1 h2 hr
    exact run_equalIn_int W D t _ _ _ _ hk
   ·cases hr
  ·next hk =>
   cases h
   refine ⟨false,by simp [aggT,hk],fun _ => rfl,fun A B v w u u' r hA hB hv hw h1 h2 hr => ?_⟩
   obtain ⟨x,rfl⟩:=List.length_eq_one_iff.1 (Zco hA)
   obtain ⟨y,rfl⟩:=List.length_eq_one_iff.1 (Zco hB)
   cases hv; cases hw
   cases v <;> simp only [kindsA,Bool.false_eq_true] at hA
   cases w <;> simp only [kindsA,Bool.false_eq_true] at hB
   simp only [eqCells,Option.map_some,Option.some.injEq,Bool.and_true] at hr
   simp only [Rel] at h1 h2
   subst h1 h2 hr
   exact run_equalIn_bool' W D t _ _ hk
  ·next fs hk =>
   split at h
   ·cases h
   ·next hp =>
    refine ⟨true,by simp [aggT,hk],fun q => absurd q (by decide),fun A B v w u u' r hA hB hv hw h1 h2 hr => ?_⟩
    cases hv; cases hw
    simp only [Rel] at h1 h2
    obtain ⟨us,rfl,h1⟩:=h1
    obtain ⟨us',rfl,h2⟩:=h2
    have hf : P.fieldsOf t = fs:=by simp [Program.fieldsOf,hk]
    rw [run_equalIn_struct W D t us us' (by rw [hf]; exact hk) (by simpa using hp),hf]
    exact ZtR (fun t ls h => Zuc d D t ls (by omega) h) h1 h2 fs.toList 0 ls r h (by simpa using hA) (by simpa using hB) (Nat.zero_le _) (Nat.zero_le _) (by simpa using hr)
  ·cases h
theorem ZFG {P : Program} {S : Sc} {t : TypeId} {fs : Array Field} {ls : List Bool} (ht : P.underlying t = some (.struct fs)) (hl : leavesC P 8 t = some ls) (hg : P.eqGuardType P.depth t = false) (neg : Bool) {A B : List AV} {u u' : Value} {r : Bool}
  (ka : kindsA ls A = true) (kb : kindsA ls B = true) (h1 : Rel S (.agg A) u) (h2 : Rel S (.agg B) u') (hr : eqCells A B = some r) (ox oy : Operand) (w : World) :
  ((do eqGuard (if neg then .neq else .eql) t ox oy u u'; binOp (if neg then .neq else .eql) t u u' : Sem Value)).run P w = .ok (.bool (if neg then !r else r)) w:=by
 obtain ⟨g,hg1,_,hk⟩:=Zuc (P:=P) (S:=S) (W:=w) 8 10000 t ls (by decide) hl
 have : g = true:=by simp [aggT,ht] at hg1; exact hg1
 subst this
 have hE:=hk A B (.agg A) (.agg B) u u' r ka kb rfl rfl h1 h2 hr
 simp only [Rel] at h1 h2
 obtain ⟨us,rfl,h1⟩:=h1
 obtain ⟨us',rfl,h2⟩:=h2
 cases neg
 ·simp only [Bool.false_eq_true,if_false,Sem.run_bind,run_eqGuard_agg (P:=P) w _ t ox oy us us' hg,Result.andThen_ok,run_eql_struct,hE]
 ·simp only [if_true,Sem.run_bind,run_eqGuard_agg (P:=P) w _ t ox oy us us' hg,Result.andThen_ok,run_neq_struct,hE]
theorem Zun {S : Sc} {v : AV} {u : Value} (h : Rel S v u) (hv : (cellsA v).all okCell = true) : u.cells.size = (cellsA v).length:=by
 have:=Zat (Zoq h hv).1
 simpa using this
theorem range0 (f : Nat→Value) : Array.map f (Array.range 0) = #[]:=by apply Array.ext <;> simp
theorem Zot {P : Program} {t el : TypeId} {i : TypeInfo} {zv : Value} {n : Nat} (ht : P.underlying t = some (.slice el)) (hi : P.info? el = some i) (hz : i.zero = some zv) (hs : zv.cells.size = i.size)
  (hn : n * i.size≤16777216) (parts : Array (Nat × Value)) (c' : Array Value) (hf : Instr.fill (fun j => some (j * i.size,i.size)) ((Array.range (n * zv.cells.size)).map (zv.cells[· % zv.cells.size]!)) parts.toList = some c') (w : World) :
  (Instr.buildSlice t n parts).run P w = .ok (.slice (some ⟨w.heap.size,0,none⟩) n n) (w.alloc (.cells c' el)):=by
 have hle : ¬ (16777216 < n * i.size):=by omega
 rw [hs] at hf
 by_cases h0 : n * i.size = 0
 ·rw [h0,range0] at hf
  simp [Instr.buildSlice,run_underlying ht,sizeOf,typeInfo,hi,hle,h0,newRow,range0,hf]
 ·simp [Instr.buildSlice,run_underlying ht,sizeOf,typeInfo,hi,hle,h0,newRow,ZhH hi hz,hs,hf]
theorem ZzF {S : Sc} {b off : Nat} {u : Value} (h : Rel S (.ptr b off) u) : ∃ i : BI,S.ι b = some i∧u = .pointer (some ⟨i.r,i.base + off,none⟩):=by simpa only [Rel] using h
theorem ZtG {L : LK} (hL : Link C L) {f : Operand} {args : Array Operand} {argTypes : Array TypeId} {dst : Option Tmp} {type : TypeId} {pos : String} {after : Array Edge} {guard : Option (Nat × Bool)}
  {g : FuncId} {caps : Array Value} (hfu : a.eval f = .func (.func g) #[] caps) {n : Nat} (hn : L n = some g) {R : Value→World→Prop}
  (hc : Goes C.P g ((args.map a.eval).toList ++ caps.toList).toArray S.w R) :
  Does C.P S a ⟨dst,.call ⟨.value f,args,argTypes⟩,type,pos,after,guard⟩ R:=by
 have harr0 : (args.map a.eval).toList ++ caps.toList = (args.map a.eval ++ caps).toList:=by simp
 rcases hc with ⟨fn,hfn,hname,hbody,hc⟩ | ⟨u,w',hrun,hr⟩
 case inr =>
  refine .inl ⟨u,w',?_,hr⟩
  rw [harr0,Array.toArray_toList] at hrun
  simpa [execOp,resolve,hfu,Deferred.ofValue,invoke] using hrun
 refine .inr (.inr (.inl ⟨g,_,?_,hc⟩))
 have hb : fn.body.isNone = false:=by
  cases hb : fn.body with
  | none => rw [hb] at hbody; cases hbody
  | some c => rfl
 have hbn : fn.body≠none:=fun q => by rw [q] at hb; cases hb
 have harr : (args.map a.eval).toList ++ caps.toList = (args.map a.eval ++ caps).toList:=by simp
 rw [harr,Array.toArray_toList]
 simp [execOp,resolve,hfu,Deferred.ofValue,invoke,callFunc,hfn,hbn,hname]
theorem q_ok (hL : Link C S.L) (hE : EnvR S C.N e a) (H : HR A n0 S hp fz) (hle : ∀ b k,h b = some k→hp b = some k) (hG : Gok G S) (hF : CallsOK C.P S.L G F) {o : Oper} {io : IOp} (hop : compOp C o.op = some io)
  (hev : evQ G F e h p io = some (v,δ,fr)) (hδ : ∀ x ∈ δ,hp p = some x) (hnew : δ≠[]→S.ι p = none) (hfr : ∀ b ∈ fr,fz b) :
  Does C.P S a o (ResQ A n0 S p δ v hp fz):=by
 obtain ⟨dst,op,type,pos,after,guard⟩:=o
 cases op <;> simp only [compOp,reduceCtorEq,Option.map_eq_some_iff] at hop
 case move x =>
  obtain ⟨y,hy,rfl⟩:=hop
  simp only [evQ,Option.some.injEq,Prod.mk.injEq] at hev
  obtain ⟨rfl,rfl,rfl⟩:=hev
  exact .value H rfl (Zar hL hE hy)
 case assign x =>
  obtain ⟨y,hy,rfl⟩:=hop
  simp only [evQ,Option.some.injEq,Prod.mk.injEq] at hev
  obtain ⟨rfl,rfl,rfl⟩:=hev
  exact .value H rfl (Zar hL hE hy)
 case pick c x y =>
  split at hop
  ·next c' x' y' hc hx hy =>
   cases hop
   simp only [evQ] at hev
   split at hev
   ·next t ht =>
    simp only [Option.some.injEq,Prod.mk.injEq] at hev
    obtain ⟨rfl,rfl,rfl⟩:=hev
    have rc:=Zar hL hE hc
    rw [ht] at rc
    simp only [Rel] at rc
    refine .value H (u:=if t then a.eval x else a.eval y) (by simp [execOp,rc,asBool]) ?_
    cases t
    ·exact Zar hL hE hy
    ·exact Zar hL hE hx
   ·cases hev
  ·cases hop
 case binOp op xt x y yt =>
  split at hop
  ·next x' y' hx hy =>
   have rx:=Zar hL hE hx
   have ry:=Zar hL hE hy
   split at hop
   ·next k hk =>
    cases hop
    simp only [evQ,Option.map_eq_some_iff] at hev
    obtain ⟨r,hr,he⟩:=hev
    simp only [Prod.mk.injEq] at he
    obtain ⟨rfl,rfl,rfl⟩:=he
    obtain ⟨u,hu,hv⟩:=ZyL (P:=C.P) hr S rx ry xt x y S.w
    refine .value H (u:=u) ?_ hv
    show Sem.run C.P (do let q ← (do eqGuard op xt x y (a.eval x) (a.eval y); binOp op xt (a.eval x) (a.eval y) : Sem Value); pure (Next.value q)) S.w = _
    rw [Sem.run_bind,hu]; rfl
   ·next hb =>
    have go : ∀ neg : Bool,op = (if neg then .neq else .eql)→evQ G F e h p (.eqb neg x' y') = some (v,δ,fr)→Does C.P S a ⟨dst,.binOp op xt x y yt,type,pos,after,guard⟩ (ResQ A n0 S p δ v hp fz):=by
     intro neg hop hev
     simp only [evQ] at hev
     split at hev
     ·next p q hp hq =>
      simp only [Option.some.injEq,Prod.mk.injEq] at hev
      obtain ⟨rfl,rfl,rfl⟩:=hev
      rw [hp] at rx; rw [hq] at ry
      simp only [Rel] at rx ry
      refine .value H (u:=.bool (if neg then p != q else p == q)) ?_ (by simp [Rel])
      show Sem.run C.P (do let q ← (do eqGuard op xt x y (a.eval x) (a.eval y); binOp op xt (a.eval x) (a.eval y) : Sem Value); pure (Next.value q)) S.w = _
      rw [Sem.run_bind,rx,ry,hop,ZFF hb]; rfl
     ·cases hev
    split at hop
    ·cases hop; exact go false rfl hev
    ·cases hop; exact go true rfl hev
    ·cases hop
   ·next fs hst =>
    split at hop
    ·next ls hls =>
     split at hop
     ·cases hop
     ·next hgd =>
      have hgd : C.P.eqGuardType C.P.depth xt = false:=by simpa using hgd
      have go : ∀ neg : Bool,op = (if neg then .neq else .eql)→evQ G F e h p (.eqs neg ls x' y') = some (v,δ,fr)→Does C.P S a ⟨dst,.binOp op xt x y yt,type,pos,after,guard⟩ (ResQ A n0 S p δ v hp fz):=by
       intro neg hop hev
       simp only [evQ] at hev
       split at hev
       ·next p q hp hq =>
        split at hev
        ·next hkk =>
         rw [Bool.and_eq_true] at hkk
         simp only [Option.map_eq_some_iff] at hev
         obtain ⟨r,hr,he⟩:=hev
         simp only [Prod.mk.injEq] at he
         obtain ⟨rfl,rfl,rfl⟩:=he
         rw [hp] at rx; rw [hq] at ry
         refine .value H (u:=.bool (if neg then !r else r)) ?_ (by simp [Rel])
         show Sem.run C.P (do let q ← (do eqGuard op xt x y (a.eval x) (a.eval y); binOp op xt (a.eval x) (a.eval y) : Sem Value); pure (Next.value q)) S.w = _
         rw [Sem.run_bind,hop,ZFG hst hls hgd neg hkk.1 hkk.2 rx ry hr]; rfl
        ·cases hev
       ·cases hev
      split at hop
      ·cases hop; exact go false rfl hev
      ·cases hop; exact go true rfl hev
      ·cases hop
    ·cases hop
   ·cases hop
  ·cases hop
 case unOp op t x =>
  obtain ⟨y,hy,rfl⟩:=hop
  simp only [evQ,Option.map_eq_some_iff] at hev
  obtain ⟨r,hr,he⟩:=hev
  simp only [Prod.mk.injEq] at he
  obtain ⟨rfl,rfl,rfl⟩:=he
  obtain ⟨u,hu,hv⟩:=ZBn (P:=C.P) hr S (Zar hL hE hy) S.w
  exact .value H (u:=u) (by simp [execOp,hu]) hv
 case convert s d x =>
  split at hop
  ·next ks k y hs hd hy =>
   cases hop
   simp only [evQ] at hev
   split at hev
   ·next k' n hn =>
    simp only [Option.some.injEq,Prod.mk.injEq] at hev
    obtain ⟨rfl,rfl,rfl⟩:=hev
    have rx:=Zar hL hE hy
    rw [hn] at rx
    simp only [Rel] at rx
    refine .value H (u:=.int k (k.wrap n)) ?_ (by simp [Rel])
    simp [execOp,rx,convert,run_underlying hs,run_underlying hd,Conv.intToInt]
   ·cases hev
  ·cases hop
 case extract x i =>
  obtain ⟨y,hy,rfl⟩:=hop
  simp only [evQ] at hev
  split at hev
  ·next vs hvs =>
   simp only [Option.map_eq_some_iff] at hev
   obtain ⟨r,hr,he⟩:=hev
   simp only [Prod.mk.injEq] at he
   obtain ⟨rfl,rfl,rfl⟩:=he
   have rx:=Zar hL hE hy
   rw [hvs] at rx
   simp only [Rel] at rx
   obtain ⟨us,hu,hrl⟩:=rx
   obtain ⟨u,hu1,hu2⟩:=ZhG hrl i r hr
   refine .value H (u:=u) ?_ hu2
   have hu1' : us[i]? = some u:=by simpa using hu1
   simp [execOp,hu,Instr.extract,hu1']
  ·cases hev
 case load t x =>
  split at hop
  ·next g inf y hg hi hy =>
   split at hop
   ·next h1 =>
    cases hop
    simp only [evQ] at hev
    split at hev
    ·next cs hcs =>
     simp only [Option.map_eq_some_iff] at hev
     obtain ⟨r,hr,he⟩:=hev
     simp only [Prod.mk.injEq] at he
     obtain ⟨rfl,rfl,rfl⟩:=he
     obtain ⟨rb,ro,hu,hat,hl⟩:=ZwQ H hle hG hcs (Zar hL hE hy)
     obtain ⟨u,hrun,hv⟩:=Zpt hg hi h1 hat hl hr
     refine .value H (u:=u) ?_ hv
     simp [execOp,Instr.loadAt,hu,Instr.sureAddr,hrun]
    ·cases hev
   ·cases hop
  ·cases hop
 case store t x y =>
  split at hop
  ·cases hop; simp [evQ] at hev
  ·cases hop
 case alloc t =>
  obtain ⟨z,hz,rfl⟩:=hop
  simp only [evQ,Option.some.injEq,Prod.mk.injEq] at hev
  obtain ⟨rfl,rfl,rfl⟩:=hev
  obtain ⟨i,zv,hi,hzv,hsz,hm⟩:=Zkk hz
  obtain ⟨k1,k2⟩:=ZgW (S:=S.ny) hm
  obtain ⟨w',hrun,hres⟩:=ZrT (P:=C.P) H (hnew (by simp)) (hδ _ (by simp)) k1 (Ztb k1 k2) t
  refine .inl ⟨_,w',?_,hres⟩
  simp [execOp,Instr.alloc,ZhH hi hzv,hrun]
 case box t x =>
  split at hop
  ·next i y hi hy =>
   cases hop
   simp only [evQ] at hev
   split at hev
   ·next hc =>
    obtain ⟨hc1,hc2⟩:=hc
    simp only [Option.some.injEq,Prod.mk.injEq] at hev
    obtain ⟨rfl,rfl,rfl⟩:=hev
    obtain ⟨k1,k2⟩:=Zoq (Zar hL hE hy) hc2
    obtain ⟨w',hrun,hres⟩:=ZrT (P:=C.P) H (hnew (by simp)) (hδ _ (by simp)) (RelL.down hc2 k1) k2 t
    refine .inl ⟨_,w',?_,hres⟩
    simp [execOp,Instr.box,hrun]
   ·cases hev
  ·cases hop
 case build t ps =>
  have go : ∀ {place : Nat→Option (Nat × Nat)} {z : List AV} {l : List (Nat × Nat × IOpd)} {zv : Value},compParts C place ps = some l→RelL S z zv.cells.toList→evQ G F e h p (.build z l) = some (v,δ,fr) →
    (∀ c',Instr.fill place zv.cells (ps.map fun (i,x) => (i,a.eval x)).toList = some c'→(Instr.build t (ps.map fun (i,x) => (i,a.eval x))).run C.P S.w = .ok (.agg c') S.w)→Does C.P S a ⟨dst,.build t ps,type,pos,after,guard⟩ (ResQ A n0 S p δ v hp fz):=by
   intro place z l zv hl hz hev hrun
   simp only [evQ,Option.map_eq_some_iff] at hev
   obtain ⟨cs,hcs,he⟩:=hev
   simp only [Prod.mk.injEq] at he
   obtain ⟨rfl,rfl,rfl⟩:=he
   obtain ⟨p1,p2⟩:=Zuq hL hE hl
   obtain ⟨c',hf,hr⟩:=Zsz p1 p2 hz hcs
   refine .value H (u:=.agg c') ?_ (by simp only [Rel]; exact ⟨c',rfl,hr⟩)
   simp [execOp,hrun c' hf]
  split at hop
  ·next fields z ht hz =>
   obtain ⟨i,zv,hi,hzv,hsz,hm⟩:=Zkk hz
   split at hop
   ·next pl hpl =>
    simp only [Option.map_eq_some_iff] at hop
    obtain ⟨l,hl,rfl⟩:=hop
    refine go hl (ZgW hm).1 hev fun c' hf => ?_
    have hpm : (fields.mapM fun f => do pure (f.offset,← sizeOf f.type) : Sem (Array (Nat × Nat))).run C.P S.w = .ok pl.toArray S.w:=by
     have : ∀ (fs : List Field) (pl : List (Nat × Nat)),mapO (fun f : Field => (C.P.info? f.type).map fun i => (f.offset,i.size)) fs = some pl→(fs.mapM fun f => do pure (f.offset,← sizeOf f.type) : Sem (List (Nat × Nat))).run C.P S.w = .ok pl S.w:=by
      intro fs
      induction fs with
      | nil => intro pl h; simp [mapO] at h; subst h; simp
      | cons f fs ih =>
       intro pl h
       simp only [mapO] at h
       split at h
       ·next y ys h1 h2 =>
        cases h
        simp only [Option.map_eq_some_iff] at h1
        obtain ⟨i,hi,rfl⟩:=h1
        have hsz : (sizeOf f.type).run C.P S.w = .ok i.size S.w:=by simp [sizeOf,typeInfo,hi]
        simp only [List.mapM_cons,Sem.run_bind,hsz,Result.andThen_ok,Sem.run_pure,ih ys h2]
       ·cases h
     rw [Array.mapM_eq_mapM_toList]
     simp only [Sem.run_map,this _ _ hpl,Result.andThen_ok]
    simp only [Instr.build,Sem.run_bind,ZhH hi hzv,Result.andThen_ok,run_underlying ht,hpm]
    have : Instr.fill (pl.toArray[·]?) zv.cells (ps.map fun (i,x) => (i,a.eval x)).toList = some c':=by simpa using hf
    simp only [this]
    rfl
   ·cases hop
  ·next n el z ht hz =>
   obtain ⟨i,zv,hi,hzv,hsz,hm⟩:=Zkk hz
   split at hop
   ·next inf hinf =>
    simp only [Option.map_eq_some_iff] at hop
    obtain ⟨l,hl,rfl⟩:=hop
    refine go hl (ZgW hm).1 hev fun c' hf => ?_
    simp only [Instr.build,Sem.run_bind,ZhH hi hzv,Result.andThen_ok,run_underlying ht,sizeOf,typeInfo,run_program,hinf,Sem.run_pure,hf]
   ·cases hop
  ·cases hop
 case buildSlice t n ps =>
  split at hop
  ·next el ht =>
   split at hop
   ·next i z hi hz =>
    split at hop
    ·next hn =>
     simp only [Option.map_eq_some_iff] at hop
     obtain ⟨l,hl,rfl⟩:=hop
     obtain ⟨i',zv,hi',hzv,hsz,hm⟩:=Zkk hz
     rw [hi] at hi'; cases hi'
     simp only [evQ] at hev
     split at hev
     ·next cs hcs =>
      split at hev
      ·next hok =>
       simp only [Option.some.injEq,Prod.mk.injEq] at hev
       obtain ⟨rfl,rfl,rfl⟩:=hev
       obtain ⟨p1,p2⟩:=Zuq hL hE hl
       have hrep:=ZwU (ZgW (S:=S) hm).1 n
       rw [hsz] at hrep
       obtain ⟨c',hf,hr⟩:=Zsz p1 p2 hrep hcs
       have h1:=Ztb hr hok
       have ok:=Ok.alloc H (hnew (by simp)) (hδ _ (by simp)) (c:=c') el (RelL.down hok hr) h1 (fun j v hj => by simpa using hj) (by simp)
       have hcl:=Zat hr
       have hfa : ∀ (cs0 : List AV) (q : List (Nat × Nat × AV)) (cs1 : List AV),fillA cs0 q = some cs1→cs1.length = cs0.length:=by
        intro cs0 q
        induction q generalizing cs0 with
        | nil => intro cs1 h; simp [fillA] at h; subst h; rfl
        | cons p q ih =>
         obtain ⟨o,m,x⟩:=p
         intro cs1 h
         simp only [fillA] at h
         split at h
         ·rw [ih _ _ h,Zma]
         ·cases h
       have hlen : cs.length = n * i.size:=by
        rw [hfa _ _ _ hcs,Zlj]
        have:=Zat (ZgW (S:=S) hm).1
        simp only [Array.length_toList] at this
        rw [← this,hsz]
       have hc's : c'.size = n * i.size:=by rw [← Array.length_toList,hcl,hlen]
       refine .inl ⟨.slice (some ⟨S.w.heap.size,0,none⟩) n n,S.w.alloc (.cells c' el),?_,_,rfl,ok,?_,fun b hb => by simp at hb; simp [Sc.new,hb]⟩
       ·have hb:=Zot (P:=C.P) ht hi hzv hsz hn (ps.map fun (i,x) => (i,a.eval x)) c' (by rw [hsz]; exact hf) S.w
        simp only [execOp,Sem.run_bind,hb,Result.andThen_ok]
        rfl
       ·simp only [Rel]
        refine ⟨⟨S.w.heap.size,0,cs.length,c'.size⟩,n,by simp [Sc.new],rfl,Nat.le_refl _,?_,?_⟩
        ·show 0 + 0 + n * i.size≤c'.size
         omega
        ·show cs.length≤0 + n * i.size
         omega
      ·cases hev
     ·cases hev
    ·cases hop
   ·cases hop
  ·cases hop
 case fieldAddr s x f =>
  split at hop
  ·next fields y ht hy =>
   split at hop
   ·next fd hfd =>
    split at hop
    ·next inf hinf =>
     split at hop
     ·cases hop
     ·next h0 =>
      cases hop
      have rx:=Zar hL hE hy
      have run : ∀ (r o : Nat),a.eval x = .pointer (some ⟨r,o,none⟩)→(execOp a.eval ⟨dst,.fieldAddr s x f,type,pos,after,guard⟩).run C.P S.w = .ok (.value (.pointer (some ⟨r,o + fd.offset,none⟩))) S.w:=by
       intro r o hx
       simp [execOp,hx,Instr.fieldAt,run_underlying ht,hfd,Instr.sureAddr,fieldPlace,sizeOf,typeInfo,hinf,h0,ZeR]
      simp only [evQ] at hev
      split at hev
      ·next b o ho =>
       simp only [Option.some.injEq,Prod.mk.injEq] at hev
       obtain ⟨rfl,rfl,rfl⟩:=hev
       rw [ho] at rx
       obtain ⟨i,hi,hu⟩:=ZzF rx
       exact .value H (run _ _ hu) (by simp only [Rel]; exact ⟨i,hi,by rw [Nat.add_assoc]⟩)
      ·next cs o ho =>
       simp only [Option.some.injEq,Prod.mk.injEq] at hev
       obtain ⟨rfl,rfl,rfl⟩:=hev
       rw [ho] at rx
       simp only [Rel] at rx
       obtain ⟨r,o',hu,hx⟩:=rx
       exact .value H (run _ _ hu) (by simp only [Rel]; exact ⟨r,o',by rw [Nat.add_assoc],hx⟩)
      ·cases hev
    ·cases hop
   ·cases hop
  ·cases hop
 case field s x f =>
  split at hop
  ·next fields y ht hy =>
   split at hop
   ·next fd hfd =>
    split at hop
    ·next inf g hinf hg =>
     split at hop
     ·next h1 =>
      cases hop
      simp only [evQ] at hev
      split at hev
      ·next cs hcs =>
       split at hev
       ·next hle =>
        simp only [Option.map_eq_some_iff] at hev
        obtain ⟨r,hr,he⟩:=hev
        simp only [Prod.mk.injEq] at he
        obtain ⟨rfl,rfl,rfl⟩:=he
        have rx:=Zar hL hE hy
        rw [hcs] at rx
        simp only [Rel] at rx
        obtain ⟨us,hu,hrl⟩:=rx
        obtain ⟨u,hrun,hv⟩:=Zjm hg hinf h1 hrl hle hr S.w
        refine .value H (u:=u) ?_ hv
        simp [execOp,hu,Instr.field,run_underlying ht,hfd,asAgg,hrun]
       ·cases hev
      ·cases hev
     ·cases hop
    ·cases hop
   ·cases hop
  ·cases hop
 case indexAddr t x ix =>
  split at hop
  ·next el y iy ht hy hiy =>
   simp only [Option.map_eq_some_iff] at hop
   obtain ⟨inf,hinf,rfl⟩:=hop
   simp only [evQ] at hev
   split at hev
   ·next k j hj =>
    have ri:=Zar hL hE hiy
    rw [hj] at ri
    simp only [Rel] at ri
    obtain ⟨_,u,hrun,hv⟩:=ZBF (P:=C.P) (k:=k) ht hinf hev (Zar hL hE hy)
    exact .value H (u:=u) (by simp [execOp,ri,hrun]) hv
   ·cases hev
  ·next n el y iy ht hy hiy =>
   simp only [Option.map_eq_some_iff] at hop
   obtain ⟨inf,hinf,rfl⟩:=hop
   simp only [evQ] at hev
   split at hev
   ·next k j hj =>
    have ri:=Zar hL hE hiy
    rw [hj] at ri
    simp only [Rel] at ri
    split at hev
    ·next hb =>
     obtain ⟨hb0,hb1⟩:=hb
     have rx:=Zar hL hE hy
     have run : ∀ (r o : Nat),a.eval x = .pointer (some ⟨r,o,none⟩)→(execOp a.eval ⟨dst,.indexAddr t x ix,type,pos,after,guard⟩).run C.P S.w = .ok (.value (.pointer (some ⟨r,o + j.toNat * inf.size,none⟩))) S.w:=by
      intro r o hx
      simp [execOp,hx,ri,Instr.indexAt,asIntOf,run_underlying ht,Instr.sureAddr,hb0,hb1,sizeOf,typeInfo,hinf,ZeR]
     split at hev
     ·next b o ho =>
      simp only [Option.some.injEq,Prod.mk.injEq] at hev
      obtain ⟨rfl,rfl,rfl⟩:=hev
      rw [ho] at rx
      obtain ⟨i,hi,hu⟩:=ZzF rx
      exact .value H (run _ _ hu) (by simp only [Rel]; exact ⟨i,hi,by rw [Nat.add_assoc]⟩)
     ·next cs o ho =>
      simp only [Option.some.injEq,Prod.mk.injEq] at hev
      obtain ⟨rfl,rfl,rfl⟩:=hev
      rw [ho] at rx
      simp only [Rel] at rx
      obtain ⟨r,o',hu,hx⟩:=rx
      exact .value H (run _ _ hu) (by simp only [Rel]; exact ⟨r,o',by rw [Nat.add_assoc],hx⟩)
     ·next g o ho =>
      simp only [Option.some.injEq,Prod.mk.injEq] at hev
      obtain ⟨rfl,rfl,rfl⟩:=hev
      rw [ho] at rx
      simp only [Rel] at rx
      exact .value H (run _ _ rx) (by simp only [Rel])
     ·cases hev
    ·cases hev
   ·cases hev
  ·cases hop
 case index t x ix =>
  have gen : ∀ (hop : (match C.P.underlying t,compOpd C x,compOpd C ix with
    | some (.array n e),some x,some i => match C.P.info? e,aggT C.P e with
     | some inf,some g => if g || inf.size == 1 then some (IOp.index g n inf.size x i) else none
     | _,_ => none
    | _,_,_ => none) = some io),Does C.P S a ⟨dst,.index t x ix,type,pos,after,guard⟩ (ResQ A n0 S p δ v hp fz):=by
   intro hop
   split at hop
   ·next n el y iy ht hy hiy =>
    split at hop
    ·next inf g hinf hg =>
     split at hop
     ·next h1 =>
      cases hop
      simp only [evQ] at hev
      split at hev
      ·next k j hj =>
       have ri:=Zar hL hE hiy
       rw [hj] at ri
       simp only [Rel] at ri
       split at hev
       ·next cs hcs =>
        split at hev
        ·next hb =>
         obtain ⟨hb0,hb1,hle⟩:=hb
         simp only [Option.map_eq_some_iff] at hev
         obtain ⟨r,hr,he⟩:=hev
         simp only [Prod.mk.injEq] at he
         obtain ⟨rfl,rfl,rfl⟩:=he
         have rx:=Zar hL hE hy
         rw [hcs] at rx
         simp only [Rel] at rx
         obtain ⟨us,hu,hrl⟩:=rx
         obtain ⟨u,hrun,hv⟩:=Zjm hg hinf h1 hrl hle hr S.w
         refine .value H (u:=u) ?_ hv
         simp [execOp,hu,ri,Instr.index,asIntOf,run_underlying ht,hb0,hb1,sizeOf,typeInfo,hinf,hrun]
        ·cases hev
       ·cases hev
      ·cases hev
     ·cases hop
    ·cases hop
   ·cases hop
  cases x with
  | const cv =>
   cases cv <;> first | exact gen hop | skip
   case string s =>
    simp only at hop
    split at hop
    ·next iy ht hiy =>
     cases hop
     simp only [evQ] at hev
     split at hev
     ·next k j hj =>
      have ri:=Zar hL hE hiy
      rw [hj] at ri
      simp only [Rel] at ri
      split at hev
      ·next h0 =>
       simp only [Option.map_eq_some_iff] at hev
       obtain ⟨r,hr,he⟩:=hev
       simp only [Prod.mk.injEq] at he
       obtain ⟨rfl,rfl,rfl⟩:=he
       rw [List.getElem?_map,Option.map_eq_some_iff] at hr
       obtain ⟨b,hb,rfl⟩:=hr
       refine .value H (u:=.int .u8 b.toNat) ?_ (by simp [Rel])
       have hb' : s[j.toNat]? = some b:=by
        have hlt:=(List.getElem?_eq_some_iff.1 hb).1
        have hv:=(List.getElem?_eq_some_iff.1 hb).2
        have hlt' : j.toNat < s.size:=by rw [Array.length_toList] at hlt; exact hlt
        rw [getElem?_pos s j.toNat hlt']
        rw [Array.getElem_toList] at hv
        exact congrArg some hv
       have hcs : a.eval (.const (.string s)) = .string s:=rfl
       simp [execOp,ri,hcs,Instr.index,asIntOf,run_underlying ht,h0,hb']
      ·cases hev
     ·cases hev
    ·cases hop
  | tmp t' => exact gen hop
  | global g => exact gen hop
  | func f => exact gen hop
 case slice t x lo hi mx =>
  cases mx with
  | some m => simp at hop
  | none =>
   simp only at hop
   split at hop
   ·next el y ht hy =>
    split at hop
    ·next inf hinf =>
     have go : ∀ {lo' hi' : Option IOpd},OptRel S (lo'.map (opd e)) (lo.map a.eval)→OptRel S (hi'.map (opd e)) (hi.map a.eval)→evQ G F e h p (.slice inf.size y lo' hi') = some (v,δ,fr) →
       Does C.P S a ⟨dst,.slice t x lo hi none,type,pos,after,guard⟩ (ResQ A n0 S p δ v hp fz):=by
      intro lo' hi' h1 h2 hev
      simp only [evQ,Option.map_eq_some_iff] at hev
      obtain ⟨r,hr,he⟩:=hev
      simp only [Prod.mk.injEq] at he
      obtain ⟨rfl,rfl,rfl⟩:=he
      obtain ⟨u,hrun,hv⟩:=ZCv (P:=C.P) H hle hr (Zar hL hE hy) h1 h2 ht hinf rfl
      exact .value H (u:=u) (by simp [execOp,hrun]) hv
     cases lo with
     | none =>
      cases hi with
      | none => cases hop; exact go (lo':=none) (hi':=none) (by simp [OptRel]) (by simp [OptRel]) hev
      | some hh =>
       simp only [Option.map_eq_some_iff] at hop
       obtain ⟨q,hq,rfl⟩:=hop
       exact go (lo':=none) (hi':=some q) (by simp [OptRel]) (Zar hL hE hq) hev
     | some ll =>
      cases hi with
      | none =>
       simp only [Option.map_eq_some_iff] at hop
       obtain ⟨q,hq,rfl⟩:=hop
       exact go (lo':=some q) (hi':=none) (Zar hL hE hq) (by simp [OptRel]) hev
      | some hh =>
       simp only at hop
       split at hop
       ·next q1 q2 hq1 hq2 => cases hop; exact go (lo':=some q1) (hi':=some q2) (Zar hL hE hq1) (Zar hL hE hq2) hev
       ·cases hop
    ·cases hop
   ·cases hop
 case makeSlice t l c =>
  split at hop
  ·next el l' c' ht hl hc =>
   split at hop
   ·next i z hi hz =>
    cases hop
    obtain ⟨i',zv,hi',hzv,hsz,hm⟩:=Zkk hz
    rw [hi] at hi'; cases hi'
    simp only [evQ] at hev
    split at hev
    ·next n m hn hm' =>
     split at hev
     ·next hb =>
      obtain ⟨hb0,hb1,hb2⟩:=hb
      simp only [Option.some.injEq,Prod.mk.injEq] at hev
      obtain ⟨rfl,rfl,rfl⟩:=hev
      have rl:=Zar hL hE hl
      have rc:=Zar hL hE hc
      rw [hn] at rl; rw [hm'] at rc
      simp only [Rel] at rl rc
      have hb2' : m * (i.bytes : Int) + m≤70368744177664:=by
       have : m * ((i.bytes : Int) + 1)≤70368744177664:=by simpa [boundBytes] using hb2
       rwa [Int.mul_add,Int.mul_one] at this
      have hmb : 0≤m * (i.bytes : Int):=Int.mul_nonneg (by omega) (by omega)
      have hrun:=run_make (P:=C.P) S.w t el i zv ht hi hzv .i64 .i64 n m hb0 hb1 (by rw [Int.mul_comm]; omega) (by omega)
      have hrel:=ZwU (ZgW (S:=S.ny) hm).1 m.toNat
      have hmc : madeCells zv.cells (m.toNat * i.size) = (Array.range (m.toNat * zv.cells.size)).map (zv.cells[· % zv.cells.size]!):=by rw [← hsz]; rfl
      have hok:=ZFy (ZgW (S:=S) hm).2 m.toNat
      have ok:=Ok.alloc H (hnew (by simp)) (hδ _ (by simp)) (c:=madeCells zv.cells (m.toNat * i.size)) el hrel (Ztb hrel hok) (fun j u hj => by rw [hmc,← Array.getElem?_toList]; exact hj) (by rw [hmc]; simp)
      have hlen : (repA m.toNat z).length = m.toNat * i.size:=by
       rw [Zlj]
       have:=Zat (ZgW (S:=S) hm).1
       simp only [Array.length_toList] at this
       rw [← this,hsz]
      refine .inl ⟨_,_,by simp [execOp,rl,rc,hrun]; exact ⟨rfl,rfl⟩,_,rfl,ok,?_,fun b hb => by simp at hb; simp [Sc.new,hb]⟩
      simp only [Rel]
      refine ⟨⟨S.w.heap.size,0,(repA m.toNat z).length,(madeCells zv.cells (m.toNat * i.size)).size⟩,m.toNat,by simp [Sc.new],rfl,by omega,?_,?_⟩
      ·show 0 + 0 + m.toNat * i.size≤(madeCells zv.cells (m.toNat * i.size)).size
       rw [size_madeCells]; omega
      ·show (repA m.toNat z).length≤0 + m.toNat * i.size
       omega
     ·cases hev
    ·cases hev
   ·cases hop
  ·cases hop
 case makeFunc fn first cap =>
  cases fn <;> simp only [reduceCtorEq] at hop
  case func f =>
   split at hop
   ·next hfz =>
    split at hop
    ·next f' cap' hf hcap =>
     cases hop
     simp only [evQ,Option.some.injEq,Prod.mk.injEq] at hev
     obtain ⟨rfl,rfl,rfl⟩:=hev
     have hfe : first = #[]:=Array.eq_empty_of_size_eq_zero hfz
     subst hfe
     refine .value H (u:=.func (.func f) #[] (cap.map a.eval)) (by simp [execOp,Instr.makeFunc]) ?_
     simp only [Rel]
     exact ⟨f,_,hL.to f f' hf,rfl,RelL.cellV (Zkh hL hE hcap)⟩
    ·cases hop
   ·cases hop
 case call c =>
  obtain ⟨callee,args,argTypes⟩:=c
  cases callee with
  | invoke r m => simp at hop
  | builtin b =>
   have hres : ∀ (ty : TypeId),(execOp a.eval ⟨dst,.call ⟨.builtin b,args,argTypes⟩,type,pos,after,guard⟩) = (builtin b argTypes type (args.map fun | .const _ => true | _ => false) (args.map a.eval)):=fun _ => rfl
   cases b <;> simp only [reduceCtorEq] at hop
   case len =>
    split at hop
    ·next x t hax hat =>
     split at hop
     ·next el ht =>
      simp only [Option.map_eq_some_iff] at hop
      obtain ⟨y,hy,rfl⟩:=hop
      simp only [evQ,Option.map_eq_some_iff] at hev
      obtain ⟨n,hn,he⟩:=hev
      simp only [Prod.mk.injEq] at he
      obtain ⟨rfl,rfl,rfl⟩:=he
      have rx:=Zar hL hE hy
      have hsl : ∃ ad c,a.eval x = .slice ad n c:=by
       cases hxv : opd e y <;> rw [hxv] at hn rx <;> simp only [lenA,Option.some.injEq,reduceCtorEq] at hn <;> simp only [Rel] at rx
       ·subst hn; exact ⟨none,0,rx⟩
       ·subst hn; obtain ⟨ad,c,q,_⟩:=rx; exact ⟨ad,c,q⟩
       ·subst hn; obtain ⟨i,c,_,q,_⟩:=rx; exact ⟨_,c,q⟩
      obtain ⟨ad,c,hsl⟩:=hsl
      have ha : args = #[x]:=by rw [← Array.toArray_toList (xs:=args),hax]
      have hat' : argTypes = #[t]:=by rw [← Array.toArray_toList (xs:=argTypes),hat]
      subst ha; subst hat'
      refine .value H (u:=.int .i64 n) ?_ (by simp [Rel])
      rw [hres type]
      simp [builtin,Builtin.len_,hsl,run_underlying ht,goInt]
     ·cases hop
    ·cases hop
   case max =>
    split at hop
    ·next x xs hxs =>
     cases hop
     simp only [evQ,Option.map_eq_some_iff] at hev
     obtain ⟨r,hr,he⟩:=hev
     simp only [Prod.mk.injEq] at he
     obtain ⟨rfl,rfl,rfl⟩:=he
     have rl:=Zkh hL hE hxs
     simp only [List.map_cons,RelL] at rl
     obtain ⟨u,us,hus,h1,h2⟩:=rl
     obtain ⟨ru,hru,hrv⟩:=Zsx (P:=C.P) true S S.w hr h1 h2
     refine .value H (u:=ru) ?_ hrv
     rw [hres type]
     simp only [builtin,Builtin.max_,hus]
     simp only [if_true] at hru
     simp [hru]
    ·cases hop
   case min =>
    split at hop
    ·next x xs hxs =>
     cases hop
     simp only [evQ,Option.map_eq_some_iff] at hev
     obtain ⟨r,hr,he⟩:=hev
     simp only [Prod.mk.injEq] at he
     obtain ⟨rfl,rfl,rfl⟩:=he
     have rl:=Zkh hL hE hxs
     simp only [List.map_cons,RelL] at rl
     obtain ⟨u,us,hus,h1,h2⟩:=rl
     obtain ⟨ru,hru,hrv⟩:=Zsx (P:=C.P) false S S.w hr h1 h2
     refine .value H (u:=ru) ?_ hrv
     rw [hres type]
     simp only [builtin,Builtin.min_,hus]
     simp only [Bool.false_eq_true,if_false] at hru
     simp [hru]
    ·cases hop
   case append =>
    split at hop
    ·split at hop
     ·split at hop
      ·split at hop
       ·cases hop
       ·cases hop; simp [evQ] at hev
      ·cases hop
     ·cases hop
    ·cases hop
  | value f =>
   have go : ∀ {inl : Bool} {f' : IOpd} {as : List IOpd},compOpd C f = some f'→mapO (compOpd C) args.toList = some as→evQ G F e h p (.call inl f' as) = some (v,δ,fr) →
     Does C.P S a ⟨dst,.call ⟨.value f,args,argTypes⟩,type,pos,after,guard⟩ (ResQ A n0 S p δ v hp fz):=by
    intro inl f' as hf has hev
    cases inl
    case true => simp [evQ] at hev
    simp only [evQ] at hev
    obtain ⟨g,caps,hfu,⟨n,hn⟩,hcalls⟩:=ZyM (P:=C.P) H hle hG hF hev hfr (Zar hL hE hf) (Zkh hL hE has) p
    exact ZtG hL hfu hn hcalls
   simp only at hop
   split at hop
   ·next n as hf has => cases hop; exact go hf has hev
   ·next n as hf has => cases hop; exact go hf has hev
   ·cases hop
end
section
variable {C : CC} {A : Nat→Prop} {n0 : Nat} {S : Sc} {h h' : Heap} {e : Env} {a : Act} {G : Nat→Option (List AV)} {F : CallF} {v : AV}
def ResW (A : Nat→Prop) (n0 : Nat) (S : Sc) (h : Heap) (io : IOp) (v : AV) (hp : Mem) (fz : Nat→Prop) (u : Value) (w' : World) : Prop :=
 ∃ S',S'.w = w'∧Ok A n0 S S' hp fz∧Rel S' v u∧((∃ f as,io = .call true f as)∨∀ b,b≠h.b.length→S'.ι b = S.ι b)
theorem ZKv (hL : Link C S.L) (hE : EnvR S C.N e a) (H : HR A n0 S h.mem h.fz) (hG : Gok G S) (hF : CallsOK C.P S.L G F) {o : Oper} {io : IOp} (hop : compOp C o.op = some io) (hev : evW G F e h io = some (v,h')) :
  Does C.P S a o (ResW A n0 S h io v h'.mem h'.fz):=by
 obtain ⟨dst,op,type,pos,after,guard⟩:=o
 have hw : isW io = true:=by cases io <;> first | rfl | (rename_i inl f args; cases inl <;> first | rfl | simp [evW] at hev) | simp [evW] at hev
 cases op <;> simp only [compOp,reduceCtorEq,Option.map_eq_some_iff] at hop
 case store t x y =>
  split at hop
  ·next inf x' y' hi hx hy =>
   cases hop
   simp only [evW] at hev
   split at hev
   ·next b off hb =>
    split at hev
    ·next hc =>
     obtain ⟨hc1,hc2⟩:=hc
     simp only [Option.map_eq_some_iff] at hev
     obtain ⟨h2,hw,he⟩:=hev
     simp only [Prod.mk.injEq] at he
     obtain ⟨rfl,rfl⟩:=he
     have rx:=Zar hL hE hx
     rw [hb] at rx
     obtain ⟨i,hi',hu⟩:=ZzF rx
     have ry:=Zar hL hE hy
     obtain ⟨k1,k2⟩:=Zoq ry hc2
     obtain ⟨w',hrun,hok⟩:=Ok.store (P:=C.P) H hw hi' (RelL.down hc2 k1) k2
     refine .inr (.inl ⟨w',?_,_,rfl,hok,by simp [Rel,undef,RelL],.inr fun b _ => rfl⟩)
     have hs:=ZuQ (P:=C.P) hi (u:=a.eval y) (by rw [Zun ry hc2,hc1]) ⟨i.r,i.base + off,none⟩ S.w
     simp [execOp,Instr.storeAt,hu,Instr.sureAddr,hs,hrun]
    ·cases hev
   ·cases hev
  ·cases hop
 case call c =>
  obtain ⟨callee,args,argTypes⟩:=c
  cases callee with
  | invoke r m => simp at hop
  | builtin b =>
   cases b <;> simp only [reduceCtorEq] at hop
   case append =>
    split at hop
    ·next x y t t' hax hat =>
     split at hop
     ·next el el' x' y' ht ht' hx hy =>
      split at hop
      ·next i z hi hz =>
       split at hop
       ·cases hop
       next h0 =>
       cases hop
       obtain ⟨i',zv,hi',hzv,hsz,hm⟩:=Zkk hz
       rw [hi] at hi'; cases hi'
       have ha : args = #[x,y]:=by rw [← Array.toArray_toList (xs:=args),hax]
       have hat' : argTypes = #[t,t']:=by rw [← Array.toArray_toList (xs:=argTypes),hat]
       subst ha; subst hat'
       obtain ⟨u,w',hrun,S',q1,q2,q3,q4⟩:=ZGz (P:=C.P) H hev (Zar hL hE hx) (Zar hL hE hy) t t' type el el' i ht ht' hi rfl rfl zv hzv hsz (by omega)
       refine .inl ⟨u,w',?_,S',q1,q2,q3,.inr q4⟩
       show Sem.run C.P (builtin .append #[t,t'] type (#[x,y].map fun | .const _ => true | _ => false) (#[x,y].map a.eval)) S.w = _
       simp [builtin,hrun]
      ·cases hop
     ·cases hop
    ·cases hop
   all_goals
    exfalso
    (repeat' split at hop)
    all_goals first
     | (obtain ⟨_,_,rfl⟩:=hop; simp [isW] at hw; done)
     | (simp only [Option.map_eq_some_iff] at hop; obtain ⟨_,_,rfl⟩:=hop; simp [isW] at hw; done)
     | (cases hop; simp [isW] at hw; done)
     | (cases hop; done)
  | value f =>
   have go : ∀ {inl : Bool} {f' : IOpd} {as : List IOpd},compOpd C f = some f'→mapO (compOpd C) args.toList = some as→evW G F e h (.call inl f' as) = some (v,h') →
     Does C.P S a ⟨dst,.call ⟨.value f,args,argTypes⟩,type,pos,after,guard⟩ (ResW A n0 S h (.call inl f' as) v h'.mem h'.fz):=by
    intro inl f' as hf has hev
    cases inl
    case false => simp [evW] at hev
    simp only [evW] at hev
    split at hev
    ·next fi cap hfc =>
     have rf:=Zar hL hE hf
     rw [hfc] at rf
     simp only [Rel] at rf
     obtain ⟨g,caps,hLf,hfu,hcap⟩:=rf
     refine (ZtG hL hfu hLf (hF.inl fi g _ h v h' hLf hev A n0 S _ rfl H hG (Zli (Zkh hL hE has) hcap.up))).mono ?_
     rintro u w' ⟨S',q1,q2,q3⟩
     exact ⟨S',q1,q2,q3,.inl ⟨_,_,rfl⟩⟩
    ·next hfc =>
     have rf:=Zar hL hE hf
     rw [hfc] at rf
     simp only [Rel] at rf
     obtain ⟨b,hy,hfu⟩:=rf
     obtain ⟨f1,tm,as1,bo,hrun,hr⟩:=hF.yld _ h v h' hev A n0 S _ b rfl hy H hG (Zkh hL hE has)
     refine .inr (.inr (.inr ⟨b.l,f1,tm,as1,bo,?_,fun n => (hr n).mono ?_⟩))
     ·rw [Array.toArray_toList] at hrun
      simpa [execOp,resolve,hfu,Deferred.ofValue,invoke] using hrun
     ·rintro e w' ⟨u,he,S',q1,q2,q3⟩
      exact ⟨u,he,S',q1,q2,q3,.inl ⟨_,_,rfl⟩⟩
    ·cases hev
   simp only at hop
   split at hop
   ·next n as hf has => cases hop; exact go hf has hev
   ·next n as hf has => cases hop; exact go hf has hev
   ·cases hop
 all_goals
  exfalso
  (repeat' split at hop)
  all_goals first
   | contradiction
   | (obtain ⟨_,_,rfl⟩:=hop; simp [isW] at hw; done)
   | (simp only [Option.map_eq_some_iff] at hop; obtain ⟨_,_,rfl⟩:=hop; simp [isW] at hw; done)
   | (cases hop; simp [isW] at hw; done)
   | (cases hop; done)
theorem w_ok (hL : Link C S.L) (hE : EnvR S C.N e a) (H : HR A n0 S h.mem h.fz) (hG : Gok G S) (hF : CallsOK C.P S.L G F) {o : Oper} {io : IOp} (hop : compOp C o.op = some io) (hev : evW G F e h io = some (v,h')) :
  Does C.P S a o (Res A n0 S v h'.mem h'.fz) :=
 (ZKv hL hE H hG hF hop hev).mono fun u w' ⟨S',q1,q2,q3,_⟩ => ⟨S',q1,q2,q3⟩
end
end Go.Cv
namespace Go.Cv
theorem Zvi {G : Nat→Option (List AV)} {F : CallF} {e : Env} {h : Mem} {p : Nat} {io : IOp} {v : AV} {δ : List Blk} {fr : List Nat} (hev : evQ G F e h p io = some (v,δ,fr)) : δ = []∨∃ x,δ = [x]:=by
 cases io <;> simp only [evQ,Option.map_eq_some_iff,reduceCtorEq] at hev
 case call inl f args =>
  cases inl <;> simp only [evQ,reduceCtorEq] at hev
  cases hf : opd e f <;> rw [hf] at hev <;> simp only [evCall,reduceCtorEq] at hev
  split at hev
  ·split at hev
   ·cases hev; exact .inl rfl
   ·cases hev
  ·cases hev
 all_goals first
  | (cases hev; first | exact .inl rfl | exact .inr ⟨_,rfl⟩)
  | (obtain ⟨_,_,he⟩:=hev; cases he; exact .inl rfl)
  | ((repeat' split at hev) <;> first
    | (obtain ⟨_,_,he⟩:=hev; cases he; exact .inl rfl)
    | (simp only [Option.map_eq_some_iff] at hev; obtain ⟨_,_,he⟩:=hev; cases he; exact .inl rfl)
    | (cases hev; done)
    | (cases hev; exact .inl rfl)
    | (cases hev; exact .inr ⟨_,rfl⟩))
theorem ZCN {a : Act} {d : Option Tmp} {u : Value} : (a.put d u).tmps.size = a.tmps.size:=by cases d <;> simp [Act.put]
theorem ZpE {S : Sc} {N : Nat} {e : Env} {a : Act} (h : EnvR S N e a) {d : Option Nat} (hd : ∀ t,d = some t→t < N) {v : AV} {u : Value} (hv : Rel S v u) : EnvR S N (putE d v e) (a.put d u):=by
 refine ⟨by rw [ZCN]; exact h.size,fun t => ?_⟩
 cases d with
 | none => exact h.get t
 | some s =>
  have hs:=hd s rfl
  simp only [putE,getE,Act.put]
  by_cases e : t = s
  ·subst e
   rw [if_pos rfl,Array.getD_eq_getD_getElem?,Array.getElem?_setIfInBounds_self_of_lt (Nat.lt_of_lt_of_le hs h.size)]
   exact hv
  ·rw [if_neg e,Array.getD_eq_getD_getElem?,Array.getElem?_setIfInBounds_ne (fun x => e x.symm),← Array.getD_eq_getD_getElem?]
   exact h.get t
theorem Zqz {S : Sc} {N : Nat} {e : Env} {a : Act} (h : EnvR S N e a) {ops : Array Oper} {o : Oper} {g : Option (Nat × Bool)} (hg : gdst ops o.guard = some g) {b : Bool} (hb : guardV e g = some b) :
  Region.wanted o (yielded ops a.tmps) = b:=by
 unfold gdst at hg
 cases hgu : o.guard with
 | none =>
  rw [hgu] at hg; cases hg
  simp only [guardV,Option.some.injEq] at hb; subst hb
  simp [Region.wanted,hgu]
 | some jw =>
  obtain ⟨j,want⟩:=jw
  rw [hgu] at hg
  simp only at hg
  split at hg
  ·next t ht =>
   cases hg
   have hr:=h.get t
   simp only [guardV] at hb
   simp only [Region.wanted,hgu,yielded,ht,Option.bind_some]
   split at hb
   ·next b' hb' =>
    rw [hb'] at hr
    simp only [Rel] at hr
    simp only [Option.some.injEq] at hb
    rw [Array.getD_eq_getD_getElem?] at hr
    cases hx : a.tmps[t]? with
    | none => rw [hx] at hr; simp [undef] at hr
    | some u =>
     rw [hx] at hr
     simp only [Option.getD_some] at hr
     subst hr
     rw [← hb]
     cases b' <;> cases want <;> rfl
   ·next hb' =>
    rw [hb'] at hr
    simp only [Rel,RelL] at hr
    obtain ⟨us,hu,hus⟩:=hr
    simp only [Option.some.injEq] at hb
    rw [Array.getD_eq_getD_getElem?] at hu
    cases hx : a.tmps[t]? with
    | none => rw [← hb]; rfl
    | some u =>
     rw [hx] at hu
     simp only [Option.getD_some] at hu
     subst hu
     rw [← hb]; rfl
   ·cases hb
  ·cases hg
def Wf (r : Option Nat) : Fence:={ Fence.wide with round:=r }
theorem ZgQ {C : CC} {op : Op} {io : IOp} (h : compOp C op = some io) : ∀ c,op≠.defer c:=by
 rintro c rfl
 simp [compOp] at h
theorem ZxA {r : Option Nat} {n : Nat} {P : Program} {f : FuncId} {args : Array Value} {w : World} {R : Ending→World→Prop} (h : Calls P f args w R) : CallsIn (Wf r) n P f args w R:=by
 have h1 : CallsIn Fence.wide n P f args w R:=callsIn_wide.2 h
 cases r with
 | none => exact h1
 | some l => exact CallsIn.inRound l h1
theorem Zqm {P : Program} {S : Sc} {a : Act} {o : Oper} {R : Value→World→Prop} (hnd : ∀ c,o.op≠.defer c) (h : Does P S a o R) {r : Option Nat} {n : Nat} {K : Act→World→Prop} {Q : Exit→Act→World→Prop} (hk : ∀ u w',R u w'→K (a.put o.dst u) w') : o.wpIn (Wf r) n P a S.w K Q:=by
 unfold Oper.wpIn
 refine ⟨fun _ _ => trivial,?_⟩
 rw [Oper.semAt_eq _ _ _ hnd]
 rcases h with ⟨u,w',h1,h2⟩ | ⟨w',h1,h2⟩ | ⟨g,us,h1,h2⟩ | ⟨l,f,tm,as,bo,h1,h2⟩
 ·rw [h1]; exact hk u w' h2
 ·rw [h1]; exact hk undef w' h2
 ·rw [h1,Oper.uponIn_enter]
  exact ⟨fun hd => (by cases hd),(ZxA h2).mono fun e w' ⟨u,he,hr⟩ => by subst he; exact hk u w' hr⟩
 ·rw [h1]
  refine ⟨fun hd => (by cases hd),?_⟩
  have h3 : RoundIn (Wf r) (n - 1) P l f tm as bo S.w (fun e w' => ∃ u,e = .returned u∧R u w'):=by
   cases r <;> exact h2 (n - 1)
  exact h3.mono fun e w' ⟨u,he,hr⟩ => by subst he; exact hk u w' hr
theorem ZEw {C : CC} {A : Nat→Prop} {n0 : Nat} {S : Sc} {h h' : Heap} {e : Env} {a : Act} {G : Nat→Option (List AV)} {F : CallF} {v : AV}
  (hL : Link C S.L) (hE : EnvR S C.N e a) (H : HR A n0 S h.mem h.fz) (hG : Gok G S) (hF : CallsOK C.P S.L G F) {o : Oper} {io : IOp} (hop : compOp C o.op = some io) (hev : evOp G F e h io = some (v,h')) :
  Does C.P S a o (Res A n0 S v h'.mem h'.fz):=by
 unfold evOp at hev
 split at hev
 ·exact w_ok hL hE H hG hF hop hev
 ·rw [Option.map_eq_some_iff] at hev
  obtain ⟨⟨v',δ,fr⟩,hq,he⟩:=hev
  simp only [Prod.mk.injEq] at he
  obtain ⟨rfl,rfl⟩:=he
  have hle : ∀ (b : Nat) (k : Blk),h.mem b = some k→(⟨h.b ++ δ,fr ++ h.f⟩ : Heap).mem b = some k:=fun b k hb => by
   show (h.b ++ δ)[b]? = _
   rw [List.getElem?_append_left (List.getElem?_eq_some_iff.1 hb).1]; exact hb
  have H2 : HR A n0 S (⟨h.b ++ δ,fr ++ h.f⟩ : Heap).mem (⟨h.b ++ δ,fr ++ h.f⟩ : Heap).fz:=H.ext (fun b i hi => by
   obtain ⟨k,hk⟩:=H.dom b i hi
   rw [hk,hle b k hk]) (fun b hb => List.mem_append_right _ hb)
  refine (q_ok hL hE H2 hle hG hF hop hq ?_ (fun _ => Zsu H (Nat.le_refl _)) (fun b hb => List.mem_append_left _ hb)).mono ?_
  ·intro x hx
   show (h.b ++ δ)[h.b.length]? = _
   rcases Zvi hq with rfl | ⟨y,rfl⟩
   ·cases hx
   ·simp at hx; subst hx; simp
  ·rintro u w' ⟨S',hw,ok,hr,_⟩
   exact ⟨S',hw,ok,hr⟩
theorem ZnP {C : CC} {ops : Array Oper} {o : Oper} {io : IOper} (h : compOper C ops o = some io) : compOp C o.op = some io.op∧gdst ops o.guard = some io.guard∧io.dst = o.dst∧∀ t,io.dst = some t→t < C.N:=by
 unfold compOper at h
 split at h
 ·next op g hop hg =>
  split at h
  ·next hd => cases h; exact ⟨hop,hg,hd.symm,fun t ht => by cases ht⟩
  ·next d hd =>
   split at h
   ·next hlt => cases h; exact ⟨hop,hg,hd.symm,fun t ht => by cases ht; exact hlt⟩
   ·cases h
 ·cases h
theorem Zuh {α β : Type} {f : α→Option β} : ∀ {xs : List α} {ys : List β},mapO f xs = some ys→∀ (j : Nat) (x : α),xs[j]? = some x→∃ y,ys[j]? = some y∧f x = some y
 | [],ys,h,j,x,hj => by simp at hj
 | x :: xs,ys,h,j,z,hj => by
  simp only [mapO] at h
  split at h
  ·next y ys' h1 h2 =>
   cases h
   cases j with
   | zero => simp at hj; subst hj; exact ⟨y,rfl,h1⟩
   | succ j => simpa using Zuh h2 j z (by simpa using hj)
  ·cases h
section
variable {C : CC} {A : Nat→Prop} {n0 : Nat} {G : Nat→Option (List AV)} {F : CallF} {ops : Array Oper} {l : List IOper}
theorem ZzB (hl : mapO (compOper C ops) ops.toList = some l) {L : LK} (hL : Link C L) (hF : CallsOK C.P L G F) {Q : Exit→Act→World→Prop} {h' : Heap} {e' : Env} {rr : Option Nat} {nn : Nat} :
  ∀ (n k : Nat),k + n = ops.size→∀ (e : Env) (h : Heap) (S : Sc) (a : Act),evOps G F (l.drop k) e h = some (e',h')→S.L = L→EnvR S C.N e a→HR A n0 S h.mem h.fz→Gok G S →
  (∀ a' S',Ok A n0 S S' h'.mem h'.fz→EnvR S' C.N e' a'→a'.defers = a.defers→Q .normal a' S'.w)→wpOpsIn (Wf rr) nn C.P ops Q (List.range' k n) a S.w
 | 0,k,hk,e,h,S,a,hev,hSL,hE,H,hG,hQ => by
  rw [List.drop_eq_nil_of_le (by rw [Zey hl]; simp; omega)] at hev
  simp only [evOps,Option.some.injEq,Prod.mk.injEq] at hev
  obtain ⟨rfl,rfl⟩:=hev
  exact hQ a S (.refl H) hE rfl
 | n + 1,k,hk,e,h,S,a,hev,hSL,hE,H,hG,hQ => by
  have hlt : k < ops.size:=by omega
  have hko : ops[k]? = some ops[k]:=Array.getElem?_eq_getElem hlt
  obtain ⟨io,hio,hc⟩:=Zuh hl k ops[k] (by rw [Array.getElem?_toList]; exact hko)
  obtain ⟨c1,c2,c3,c4⟩:=ZnP hc
  have hd : l.drop k = io :: l.drop (k + 1):=by
   rw [List.drop_eq_getElem_cons (List.getElem?_eq_some_iff.1 hio).1]
   rw [(List.getElem?_eq_some_iff.1 hio).2]
  rw [hd,evOps] at hev
  simp only [List.range'_succ,wpOpsIn,hko]
  cases hg : guardV e io.guard with
  | none => rw [hg] at hev; cases hev
  | some b =>
   rw [hg] at hev
   have hwant:=Zqz hE c2 hg
   rw [hwant]
   cases b
   ·simp only [Bool.false_eq_true,if_false]
    rw [← c3]
    refine ⟨fun _ _ => trivial,?_⟩
    refine ZzB hl hL hF n (k + 1) (by omega) _ h S _ hev hSL (ZpE hE c4 (by simp [Rel,undef,RelL])) H hG fun a' S' ok hE' hdf => hQ a' S' ok hE' (hdf.trans ?_)
    cases io.dst <;> rfl
   ·simp only [if_true]
    simp only at hev
    split at hev
    ·next v h2 hop =>
     refine Zqm (ZgQ c1) (ZEw (hSL ▸ hL) hE H hG (hSL ▸ hF) c1 hop) ?_
     rintro u w' ⟨S',rfl,ok,hr⟩
     rw [← c3]
     refine ZzB hl hL hF n (k + 1) (by omega) _ h2 S' _ hev (ok.le.L.trans hSL) (ZpE (hE.mono ok.le) c4 hr) ok.hr (hG.mono ok.le) fun a' S'' ok' hE' hdf => hQ a' S'' (ok.trans ok') hE' (hdf.trans ?_)
     cases io.dst <;> rfl
    ·cases hev
theorem ZzM (hl : mapO (compOper C ops) ops.toList = some l) {S : Sc} (hL : Link C S.L) (hF : CallsOK C.P S.L G F) {Q : Exit→Act→World→Prop} {h h' : Heap} {e e' : Env} {a : Act} {id : Nat} {rr : Option Nat} {nn : Nat}
  (hev : evOps G F l e h = some (e',h')) (hE : EnvR S C.N e a) (H : HR A n0 S h.mem h.fz) (hG : Gok G S)
  (hQ : ∀ a' S',Ok A n0 S S' h'.mem h'.fz→EnvR S' C.N e' a'→a'.defers = a.defers→Q .normal a' S'.w) : (Code.region id ops false).wpIn (Wf rr) nn C.P Q a S.w:=by
 refine wpIn_region ?_
 rw [List.range_eq_range']
 exact ZzB hl hL hF ops.size 0 (by omega) e h S a (by simpa using hev) rfl hE H hG hQ
end
end Go.Cv
namespace Go.Cv
theorem ZaK {e e' : Env} {x : IOpd} (h : ∀ t ∈ opdT x,getE e t = getE e' t) : opd e x = opd e' x:=by
 cases x <;> first | rfl | exact h _ (by simp [opdT])
theorem ZmC {e e' : Env} {xs : List IOpd} (h : ∀ t ∈ xs.flatMap opdT,getE e t = getE e' t) : xs.map (opd e) = xs.map (opd e') :=
 List.map_congr_left fun x hx => ZaK fun t ht => h t (List.mem_flatMap.2 ⟨x,hx,ht⟩)
theorem ZqQ {e e' : Env} {ps : List (Nat × Nat × IOpd)} (h : ∀ t ∈ ps.flatMap (fun p => opdT p.2.2),getE e t = getE e' t) :
  (ps.map fun (o,n,x) => (o,n,opd e x)) = (ps.map fun (o,n,x) => (o,n,opd e' x)) :=
 List.map_congr_left fun p hp => by
  obtain ⟨o,n,x⟩:=p
  have : opd e x = opd e' x:=ZaK fun t ht => h t (List.mem_flatMap.2 ⟨_,hp,ht⟩)
  simp [this]
theorem ZyR {G : Nat→Option (List AV)} {F : CallF} {e e' : Env} {h : Mem} {p : Nat} {io : IOp} (hc : ∀ t ∈ tmpsOf io,getE e t = getE e' t) : evQ G F e h p io = evQ G F e' h p io:=by
 cases io <;> simp only [tmpsOf,List.mem_append,or_imp,forall_and] at hc
 case slice sz x lo hi =>
  obtain ⟨h1,h2⟩:=hc
  have hl : lo.map (opd e) = lo.map (opd e'):=by
   cases lo with
   | none => rfl
   | some l => simp only [Option.map_some]; rw [ZaK (e:=e) (e':=e') fun t ht => h2 t (by simp [ht])]
  have hh : hi.map (opd e) = hi.map (opd e'):=by
   cases hi with
   | none => rfl
   | some l => simp only [Option.map_some]; rw [ZaK (e:=e) (e':=e') fun t ht => h2 t (by simp [ht])]
  simp only [evQ,ZaK h1,hl,hh]
 case build z ps => simp only [evQ,ZqQ hc]
 case bslice n sz z ps => simp only [evQ,ZqQ hc]
 case mm mx x xs => simp only [evQ,ZaK hc.1,ZmC hc.2]
 case call inl f as => cases inl <;> simp only [evQ,ZaK hc.1,ZmC hc.2]
 case mkfn f cap => simp only [evQ,ZmC hc]
 case pick c a b => simp only [evQ,ZaK hc.1.1,ZaK hc.1.2,ZaK hc.2]
 case alloc z => rfl
 case store n a v => rfl
 case app sz b x y => rfl
 all_goals first
  | simp only [evQ,ZaK hc.1,ZaK hc.2]
  | simp only [evQ,ZaK hc]
theorem ZyS {G : Nat→Option (List AV)} {F : CallF} {e e' : Env} {h : Heap} {io : IOp} (hc : ∀ t ∈ tmpsOf io,getE e t = getE e' t) : evW G F e h io = evW G F e' h io:=by
 cases io <;> simp only [tmpsOf,List.mem_append,or_imp,forall_and] at hc <;> (try rfl)
 case store n a v => simp only [evW,ZaK hc.1,ZaK hc.2]
 case app sz b x y => simp only [evW,ZaK hc.1,ZaK hc.2]
 case call inl f as => cases inl <;> simp only [evW,ZaK hc.1,ZmC hc.2]
theorem ZBm {G : Nat→Option (List AV)} {F : CallF} {e : Env} {h h2 : Mem} {p p2 : Nat} {io : IOp} (hs : sens io = false) : evQ G F e h p io = evQ G F e h2 p2 io:=by
 cases io <;> first | rfl | (simp [sens] at hs; done)
theorem Zpq {G : Nat→Option (List AV)} {F : CallF} {e : Env} {h : Mem} {p : Nat} {io : IOp} (hs : sens io = false) {v : AV} {δ : List Blk} {fr : List Nat} (hev : evQ G F e h p io = some (v,δ,fr)) : δ = []∧fr = []:=by
 cases io <;> (try (simp [sens] at hs; done)) <;> simp only [evQ,Option.map_eq_some_iff,reduceCtorEq] at hev
 all_goals first
  | (cases hev; exact ⟨rfl,rfl⟩)
  | (obtain ⟨_,_,he⟩:=hev; cases he; exact ⟨rfl,rfl⟩)
  | ((repeat' split at hev) <;> first
    | (obtain ⟨_,_,he⟩:=hev; cases he; exact ⟨rfl,rfl⟩)
    | (simp only [Option.map_eq_some_iff] at hev; obtain ⟨_,_,he⟩:=hev; cases he; exact ⟨rfl,rfl⟩)
    | (cases hev; done)
    | (cases hev; exact ⟨rfl,rfl⟩))
def Closed (ops : Array Oper) (ls : Nat→Bool) : Prop:=∀ i,ls i = true→∀ o,ops[i]? = some o→∀ e ∈ o.after,Region.binds .any e = true→ls e.on = true
def befStep (acc : Array Nat) (o : Oper) : Array Nat:=acc.push (o.after.foldl (fun s e => if Region.binds .any e then s ||| 2 ^ e.on ||| acc.getD e.on 0 else s) 0)
theorem Zwr (acc : Array Nat) (i : Nat) : ∀ (es : List Edge) (s : Nat),(es.foldl (fun s e => if Region.binds .any e then s ||| 2 ^ e.on ||| acc.getD e.on 0 else s) s).testBit i = true →
  s.testBit i = true∨∃ e ∈ es,Region.binds .any e = true∧(e.on = i∨(acc.getD e.on 0).testBit i = true)
 | [],s,h => .inl h
 | e :: es,s,h => by
  simp only [List.foldl_cons] at h
  rcases Zwr acc i es _ h with h | ⟨e',he',hb⟩
  ·split at h
   ·next hbind =>
    rw [Nat.testBit_or,Nat.testBit_or,Bool.or_eq_true,Bool.or_eq_true] at h
    rcases h with (h | h) | h
    ·exact .inl h
    ·rw [Nat.testBit_two_pow] at h
     exact .inr ⟨e,by simp,hbind,.inl (by simpa using h)⟩
    ·exact .inr ⟨e,by simp,hbind,.inr h⟩
   ·exact .inl h
  ·exact .inr ⟨e',by simp [he'],hb⟩
theorem ZvY (ops : Array Oper) : ∀ (rest : List Oper) (k : Nat) (acc : Array Nat),ops.toList.drop k = rest→acc.size = k →
  (∀ j,j < k→∀ i,(acc.getD j 0).testBit i = true→∀ ls,Closed ops ls→(∀ o,ops[j]? = some o→∀ e ∈ o.after,Region.binds .any e = true→ls e.on = true)→ls i = true) →
  ∀ j i,((rest.foldl befStep acc).getD j 0).testBit i = true→∀ ls,Closed ops ls→(∀ o,ops[j]? = some o→∀ e ∈ o.after,Region.binds .any e = true→ls e.on = true)→ls i = true
 | [],k,acc,hr,hs,hacc,j,i,hb,ls,hc,he => by
  simp only [List.foldl_nil] at hb
  by_cases hj : j < k
  ·exact hacc j hj i hb ls hc he
  ·rw [Array.getD_eq_getD_getElem?,Array.getElem?_eq_none (by omega)] at hb
   simp at hb
 | o :: rest,k,acc,hr,hs,hacc,j,i,hb,ls,hc,he => by
  simp only [List.foldl_cons] at hb
  have hlt : k < ops.toList.length:=by
   rcases Nat.lt_or_ge k ops.toList.length with q | q
   ·exact q
   ·rw [List.drop_eq_nil_of_le q] at hr; cases hr
  rw [List.drop_eq_getElem_cons hlt] at hr
  simp only [List.cons.injEq] at hr
  obtain ⟨ho,hrest⟩:=hr
  have hok : ops[k]? = some o:=by rw [← Array.getElem?_toList,List.getElem?_eq_getElem hlt,ho]
  refine ZvY ops rest (k + 1) (befStep acc o) hrest (by simp [befStep,hs]) ?_ j i hb ls hc he
  intro j hj i hb ls hc he
  rw [Array.getD_eq_getD_getElem?] at hb
  unfold befStep at hb
  rw [Array.getElem?_push] at hb
  split at hb
  ·next hjk =>
   have : j = k:=by omega
   subst this
   simp only [Option.getD_some] at hb
   rw [← Array.foldl_toList] at hb
   rcases Zwr acc i _ _ hb with hb | ⟨e,hem,hbind,hb⟩
   ·simp at hb
   ·have hls:=he o hok e (by simpa using hem) hbind
    rcases hb with rfl | hb
    ·exact hls
    ·by_cases hlt' : e.on < j
     ·exact hacc e.on hlt' i hb ls hc fun o' ho' e' he' hb' => hc e.on hls o' ho' e' he' hb'
     ·rw [Array.getD_eq_getD_getElem?,Array.getElem?_eq_none (by omega)] at hb
      simp at hb
  ·rw [← Array.getD_eq_getD_getElem?] at hb
   have hjk : j < k:=by omega
   exact hacc j hjk i hb ls hc he
theorem Zqb {ops : Array Oper} {j i : Nat} (hb : ((Region.before ops).getD j 0).testBit i = true) {ls : Nat→Bool} (hc : Closed ops ls) (he : ∀ o,ops[j]? = some o→∀ e ∈ o.after,Region.binds .any e = true→ls e.on = true) : ls i = true:=by
 unfold Region.before at hb
 rw [← Array.foldl_toList] at hb
 exact ZvY ops ops.toList 0 #[] rfl rfl (fun j hj => by omega) j i hb ls hc he
structure Seq (G : Nat→Option (List AV)) (F : CallF) (l : List IOper) (E : Nat→Env) (M : Nat→Heap) (V : Nat→AV) : Prop where
 env : ∀ (i : Nat) (io : IOper),l[i]? = some io→E (i + 1) = putE io.dst (V i) (E i)
 doing : ∀ (i : Nat) (io : IOper),l[i]? = some io→(guardV (E i) io.guard = some true∧evOp G F (E i) (M i) io.op = some (V i,M (i + 1)))∨(guardV (E i) io.guard = some false∧V i = .tup []∧M (i + 1) = M i)
theorem ZDB {G : Nat→Option (List AV)} {F : CallF} : ∀ {l : List IOper} {e e' : Env} {h h' : Heap},evOps G F l e h = some (e',h') →
  ∃ (E : Nat→Env) (M : Nat→Heap) (V : Nat→AV),E 0 = e∧M 0 = h∧E l.length = e'∧M l.length = h'∧Seq G F l E M V
 | [],e,e',h,h',hev => by
  simp only [evOps,Option.some.injEq,Prod.mk.injEq] at hev
  exact ⟨fun _ => e,fun _ => h,fun _ => .undef,rfl,rfl,hev.1,hev.2,⟨fun i io hi => by simp at hi,fun i io hi => by simp at hi⟩⟩
 | o :: os,e,e',h,h',hev => by
  have go : ∀ (v : AV) (h2 : Heap),evOps G F os (putE o.dst v e) h2 = some (e',h') →
    ((guardV e o.guard = some true∧evOp G F e h o.op = some (v,h2))∨(guardV e o.guard = some false∧v = .tup []∧h2 = h)) →
    ∃ (E : Nat→Env) (M : Nat→Heap) (V : Nat→AV),E 0 = e∧M 0 = h∧E (o :: os).length = e'∧M (o :: os).length = h'∧Seq G F (o :: os) E M V:=by
   intro v h2 hr hd
   obtain ⟨E,M,V,hE0,hM0,hEn,hMn,hs⟩:=ZDB hr
   refine ⟨fun i => match i with | 0 => e | i + 1 => E i,fun i => match i with | 0 => h | i + 1 => M i,fun i => match i with | 0 => v | i + 1 => V i,rfl,rfl,hEn,hMn,⟨?_,?_⟩⟩
   ·intro i io hi
    cases i with
    | zero => simp at hi; subst hi; exact hE0
    | succ i => exact hs.env i io (by simpa using hi)
   ·intro i io hi
    cases i with
    | zero =>
     simp at hi; subst hi
     simp only [hM0]
     rcases hd with ⟨a,b⟩ | ⟨a,b,c⟩
     ·exact .inl ⟨a,b⟩
     ·exact .inr ⟨a,b,c⟩
    | succ i => exact hs.doing i io (by simpa using hi)
  simp only [evOps] at hev
  split at hev
  ·next hg =>
   split at hev
   ·next v h2 hop => exact go v h2 hev (.inl ⟨hg,hop⟩)
   ·cases hev
  ·next hg => exact go _ h hev (.inr ⟨hg,rfl,rfl⟩)
  ·cases hev
def selE (l : List IOper) (V : Nat→AV) (ls : Nat→Bool) (e : Env) : Nat→Env
 | 0 => e
 | i + 1 => if ls i then putE ((l[i]?).bind (·.dst)) (V i) (selE l V ls e i) else selE l V ls e i
theorem Zgx {d : Option Nat} {v : AV} {e : Env} {t : Nat} : getE (putE d v e) t = if d = some t then v else getE e t:=by
 cases d with
 | none => simp [putE]
 | some s =>
  simp only [putE,getE]
  by_cases h : t = s
  ·subst h; simp
  ·rw [if_neg h,if_neg (by simpa using fun x => h x.symm)]
theorem ZwZ {l : List IOper} {V : Nat→AV} {ls : Nat→Bool} {e : Env} {t k : Nat} : ∀ {n : Nat},k≤n→(∀ j,k≤j→j < n→ls j = true→∀ io,l[j]? = some io→io.dst≠some t)→getE (selE l V ls e n) t = getE (selE l V ls e k) t:=by
 intro n hkn
 induction hkn with
 | refl => intro _; rfl
 | @step n hkn ih =>
  intro h
  simp only [selE]
  have ih':=ih fun j a b => h j a (by omega)
  split
  ·next hl =>
   rw [Zgx,if_neg,ih']
   intro hd
   cases hio : l[n]? with
   | none => rw [hio] at hd; cases hd
   | some io => rw [hio] at hd; exact h n hkn (by omega) hl io hio hd
  ·exact ih'
theorem Zth {G : Nat→Option (List AV)} {F : CallF} {l : List IOper} {E : Nat→Env} {M : Nat→Heap} {V : Nat→AV} (hs : Seq G F l E M V) {ls : Nat→Bool} {t : Nat} :
  ∀ {k : Nat},k≤l.length→(∀ j,j < k→∀ io,l[j]? = some io→io.dst = some t→ls j = true)→getE (selE l V ls (E 0) k) t = getE (E k) t
 | 0,_,_ => rfl
 | k + 1,hk,h => by
  have ih:=Zth hs (k:=k) (by omega) fun j a => h j (by omega)
  have hio : l[k]? = some l[k]:=List.getElem?_eq_getElem (by omega)
  rw [hs.env k _ hio,Zgx]
  simp only [selE]
  by_cases hd : l[k].dst = some t
  ·rw [if_pos hd,if_pos (h k (by omega) _ hio hd),Zgx,hio]
   simp [hd]
  ·rw [if_neg hd]
   split
   ·rw [Zgx,hio]; simp [hd]; exact ih
   ·exact ih
end Go.Cv
