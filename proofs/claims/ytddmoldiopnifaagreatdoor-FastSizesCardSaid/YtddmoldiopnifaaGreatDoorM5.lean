/-
 A part of the proof of the statements of this seat (texts that the law's own text leans on): no condition.
-/
import Derived.Test.YtddmoldiopnifaaGreatDoorM4
import Derived.Laws.LoneSync
set_option linter.unusedVariables false
set_option linter.unusedSimpArgs false
namespace Go.Cv
def exOf : Ex→Exit
 | .norm => .normal
 | .ret => .ret
 | .exit id => .exit id
theorem Zxi (l : List Nat) (e : Env) (t : Nat) : getE (keepE l e) t = if t ∈ l then getE e t else .undef:=by
 unfold keepE
 induction l with
 | nil => simp [getE]
 | cons x l ih =>
  simp only [List.map_cons,getE,ih,List.mem_cons]
  by_cases h : t = x
  ·subst h; simp
  ·simp [h]
theorem ZnB {S : Sc} {N : Nat} {e : Env} {a : Act} (h : EnvR S N e a) (l : List Nat) : EnvR S N (keepE l e) a :=
 ⟨h.size,fun t => by
  rw [Zxi]
  split
  ·exact h.get t
  ·simp [Rel]⟩
section
variable {C : CC} {A : Nat→Prop} {n0 : Nat} {G : Nat→Option (List AV)} {F : CallF} {ops : Array Oper} {l : List IOper}
theorem Zve {α : Type} {a b : Option α} {r : α} (h : bothO a b = some r) : a = some r∧b = some r:=by
 unfold bothO at h
 cases a with
 | none => cases h
 | some x =>
  cases b with
  | none => cases h
  | some y =>
   simp only [Option.bind_some] at h
   split at h
   ·next q => subst q; exact ⟨h,h⟩
   ·cases h
theorem ZsS {fin : Env→Heap→Option (Env × Heap)} {e : Env} {h : Heap} {r : Env × Heap} : ∀ {ts : List OT},evT G F l fin (altT ts) e h = some r→∀ t ∈ ts,evT G F l fin t e h = some r
 | [],_,t,ht => by cases ht
 | [x],hr,t,ht => by
  have : t = x:=by simpa using ht
  subst this
  simpa only [altT] using hr
 | x :: y :: ts,hr,t,ht => by
  simp only [altT,evT] at hr
  obtain ⟨h1,h2⟩:=Zve hr
  rcases List.mem_cons.1 ht with rfl | ht
  ·exact h1
  ·exact ZsS h2 t ht
structure TFree (ops : Array Oper) (l : List IOper) : Prop where
 back : ∀ i o,ops[i]? = some o→∀ e ∈ o.after,Region.binds .any e = true→e.on < i
 ssa : ∀ (i j : Nat) (x y : IOper) (d : Nat),l[i]? = some x→l[j]? = some y→x.dst = some d→(d ∈ readsOf y→((Region.before ops).getD j 0).testBit i = true)∧(i≠j→y.dst≠some d)
theorem ZAn (h : treeOk ops l = true) : TFree ops l:=by
 unfold treeOk at h
 simp only [Bool.and_eq_true,List.all_eq_true,List.mem_range] at h
 obtain ⟨⟨h1,h2⟩,_⟩:=h
 have lt : ∀ {i : Nat} {x : IOper},l[i]? = some x→i < l.length:=fun h => (List.getElem?_eq_some_iff.1 h).1
 refine ⟨fun i o ho e he hb => ?_,fun i j x y d hx hy hd => ?_⟩
 ·have hlt : i < ops.size:=by
   rcases Nat.lt_or_ge i ops.size with q | q
   ·exact q
   ·simp [Array.getElem?_eq_none q] at ho
  have:=h1 i hlt
  rw [ho] at this
  have:=List.all_eq_true.1 this e (by simpa using he)
  simpa [hb] using this
 ·have:=h2 j (lt hy) i (lt hx)
  rw [hx,hy] at this
  simp only [hd,Bool.and_eq_true,Bool.or_eq_true,Bool.not_eq_true',beq_iff_eq,bne_iff_ne,ne_eq] at this
  obtain ⟨a,b⟩:=this
  refine ⟨fun hm => ?_,fun hne => b.resolve_left hne⟩
  rcases a with a | a
  ·rw [List.contains_iff_mem.2 hm] at a; cases a
  ·exact a
theorem Zlo {c : Bool} {io : IOper} (h : eagerI c io = true) : isW io.op = false∧∀ (G : Nat→Option (List AV)) (F : CallF) (e : Env) (h h2 : Mem) (p : Nat),evQ G F e h p io.op = evQ G F e h2 p io.op∧∀ v δ fr,evQ G F e h p io.op = some (v,δ,fr)→fr = []:=by
 obtain ⟨d,op,g⟩:=io
 unfold eagerI at h
 refine ⟨?_,fun G F e h h2' p => ?_⟩
 ·cases op <;> first | rfl | (simp at h; done)
 ·by_cases hs : sens op = false
  ·exact ⟨ZpD hs,fun v δ fr q => (Zha hs q).2⟩
  ·cases op <;> first | (exact absurd rfl hs; done) | (simp at h; done) | refine ⟨rfl,fun v δ fr q => ?_⟩
   all_goals
    simp only [evQ] at q
    (repeat' split at q)
    all_goals first | (cases q; rfl) | (cases q; done)
theorem Zvl {io : IOper} (h : eagerI true io = true) : sens io.op = false:=by
 obtain ⟨d,op,g⟩:=io
 unfold eagerI at h
 cases op <;> first | rfl | (simp [sens] at h; done)
theorem Zzq {i : Nat} {io : IOper} (hio : l[i]? = some io) (h : callT io.op = true) : anyT l = true:=by
 unfold anyT
 exact List.any_eq_true.2 ⟨io,List.mem_of_getElem? hio,h⟩
theorem Zsc {c : Bool} {io : IOper} (h : eagerI c io = true) (hs : sens io.op = true) {G : Nat→Option (List AV)} {F : CallF} {e : Env} {m : Mem} {p : Nat} {v : AV} {δ : List Blk} {fr : List Nat} (q : evQ G F e m p io.op = some (v,δ,fr)) : δ≠[]:=by
 obtain ⟨d,op,g⟩:=io
 unfold eagerI at h
 cases op <;> first | (simp [sens] at hs; done) | (simp at h; done) | skip
 all_goals
  simp only [evQ] at q
  (repeat' split at q)
  all_goals first | (cases q; simp; done) | (cases q; done)
structure TInv (C : CC) (A : Nat→Prop) (n0 : Nat) (G : Nat→Option (List AV)) (F : CallF) (ops : Array Oper) (l : List IOper) (L : Nat→Option FuncId) (pn : Nat→Option Nat) (tr ms : Nat→Bool) (e : Env) (h : Heap) (S : Sc) (a : Act) : Prop where
 sub : ∀ i,ms i = true→tr i = true
 lt : ∀ i,tr i = true→i < l.length
 ct : Closed ops tr
 cm : Closed ops ms
 L : S.L = L
 size : C.N≤a.tmps.size
 env : ∀ t,(∀ j io,l[j]? = some io→tr j = true→ms j = false→io.dst≠some t)→Rel S (getE e t) (a.tmps.getD t undef)
 pend : ∀ j io,l[j]? = some io→tr j = true→ms j = false→eagerI (anyT l) io = true∧(anyT l = true→pn j = none)∧∃ v δ,(∀ t,io.dst = some t→getE e t = v)∧((guardV e io.guard = some true∧evQ G F e h.mem ((pn j).getD 0) io.op = some (v,δ,[]))∨(guardV e io.guard = some false∧v = .tup []∧δ = []))∧∀ x ∈ δ,∃ p,pn j = some p∧h.mem p = some x∧S.ι p = none
 dis : ∀ i j p,tr i = true→ms i = false→tr j = true→ms j = false→i≠j→pn i = some p→pn j≠some p
 low : ∀ i p,tr i = true→ms i = false→pn i = some p→p < h.b.length
 hr : HR A n0 S h.mem h.fz
 g : Gok G S
def maskE (X : List Nat) (e : Env) : Env:=X.map (fun t => (t,AV.undef)) ++ e
theorem ZqT (X : List Nat) (e : Env) (t : Nat) : getE (maskE X e) t = if t ∈ X then .undef else getE e t:=by
 unfold maskE
 induction X with
 | nil => simp
 | cons x X ih =>
  simp only [List.map_cons,List.cons_append,getE,ih,List.mem_cons]
  by_cases h : t = x
  ·subst h; simp
  ·simp [h]
theorem TInv.mask {L : Nat→Option FuncId} {pn : Nat→Option Nat} {tr ms : Nat→Bool} {e : Env} {h : Heap} {S : Sc} {a : Act} (I : TInv C A n0 G F ops l L pn tr ms e h S a) :
  ∃ em,EnvR S C.N em a∧∀ t,(∀ j io,l[j]? = some io→tr j = true→ms j = false→io.dst≠some t)→getE em t = getE e t:=by
 have hX : ∀ t,t ∈ ((List.range l.length).filterMap fun j => if tr j && !ms j then (l[j]?).bind (·.dst) else none)↔∃ j io,l[j]? = some io∧tr j = true∧ms j = false∧io.dst = some t:=by
  intro t
  rw [List.mem_filterMap]
  constructor
  ·rintro ⟨j,hj,hd⟩
   split at hd
   ·next q =>
    simp only [Bool.and_eq_true,Bool.not_eq_true'] at q
    cases hio : l[j]? with
    | none => rw [hio] at hd; cases hd
    | some io => rw [hio] at hd; exact ⟨j,io,hio,q.1,q.2,hd⟩
   ·cases hd
  ·rintro ⟨j,io,hio,h1,h2,h3⟩
   exact ⟨j,List.mem_range.2 (List.getElem?_eq_some_iff.1 hio).1,by rw [h1,h2,hio]; exact h3⟩
 refine ⟨maskE ((List.range l.length).filterMap fun j => if tr j && !ms j then (l[j]?).bind (·.dst) else none) e,⟨I.size,fun t => ?_⟩,fun t ht => ?_⟩
 ·rw [ZqT]
  split
  ·simp [Rel]
  ·next q => exact I.env t fun j io h1 h2 h3 h4 => q ((hX t).2 ⟨j,io,h1,h2,h3,h4⟩)
 ·rw [ZqT,if_neg]
  intro q
  obtain ⟨j,io,h1,h2,h3,h4⟩:=(hX t).1 q
  exact ht j io h1 h2 h3 h4
theorem TInv.reads (hfree : TFree ops l) {L : Nat→Option FuncId} {pn : Nat→Option Nat} {tr ms : Nat→Bool} {e : Env} {h : Heap} {S : Sc} {a : Act} (I : TInv C A n0 G F ops l L pn tr ms e h S a) {i : Nat} {io : IOper} (hio : l[i]? = some io)
  (hrd : ∀ o,ops[i]? = some o→∀ e ∈ o.after,Region.binds .any e = true→ms e.on = true) : ∀ t ∈ readsOf io,∀ j y,l[j]? = some y→tr j = true→ms j = false→y.dst≠some t:=by
 intro t ht j y hy h1 h2 hd
 have:=Zeo ((hfree.ssa j i y io t hy hio hd).1 ht) I.cm hrd
 rw [h2] at this; cases this
theorem Zui (a : Act) (d : Option Tmp) (u : Value) : (a.put d u).tmps.size = a.tmps.size:=ZuV
theorem ZxY {a : Act} {N : Nat} (hN : N≤a.tmps.size) {d : Option Nat} (hd : ∀ t,d = some t→t < N) (u : Value) (t : Nat) : (a.put d u).tmps.getD t undef = if d = some t then u else a.tmps.getD t undef:=by
 cases d with
 | none => simp [Act.put]
 | some s =>
  have hs:=hd s rfl
  simp only [Act.put]
  by_cases h : s = t
  ·subst h
   rw [if_pos rfl,Array.getD_eq_getD_getElem?,Array.getElem?_setIfInBounds_self_of_lt (Nat.lt_of_lt_of_le hs hN)]; rfl
  ·rw [if_neg (by simpa using h),Array.getD_eq_getD_getElem?,Array.getElem?_setIfInBounds_ne h,← Array.getD_eq_getD_getElem?]
theorem ZkJ {e e' : Env} {io : IOper} (h : ∀ t ∈ readsOf io,getE e t = getE e' t) : guardV e io.guard = guardV e' io.guard:=by
 cases hgd : io.guard with
 | none => rfl
 | some p =>
  simp only [guardV]
  rw [h p.1 (by simp [readsOf,hgd])]
theorem TInv.early (hfree : TFree ops l) {L : Nat→Option FuncId} {pn : Nat→Option Nat} {tr ms : Nat→Bool} {e e1 : Env} {h h1 : Heap} {S : Sc} {a : Act} (I : TInv C A n0 G F ops l L pn tr ms e h S a) {j : Nat} {io : IOper} (hio : l[j]? = some io) (hun : tr j = false)
  (hrd : ∀ o,ops[j]? = some o→∀ e ∈ o.after,Region.binds .any e = true→tr e.on = true) (hea : eagerI (anyT l) io = true) (hev : evOps G F [io] e h = some (e1,h1)) :
  ∃ pn',TInv C A n0 G F ops l L pn' (ins tr j) ms e1 h1 S a:=by
 obtain ⟨hw,hm⟩:=Zlo hea
 have hmj : ms j = false:=by
  cases q : ms j with
  | false => rfl
  | true => rw [I.sub j q] at hun; cases hun
 have insj : ∀ k,k≠j→ins tr j k = tr k:=fun k hk => by unfold ins; rw [if_neg hk]
 -- its slot isn't looked at by what was done,nor written
 have hnr : ∀ k y,l[k]? = some y→(k = j∨tr k = true)→∀ d,io.dst = some d→d ∉ readsOf y:=by
  intro k y hy hk d hd hr
  have hb':=(hfree.ssa j k io y d hio hy hd).1 hr
  rcases hk with rfl | hk
  ·have:=Zeo hb' I.ct hrd
   rw [hun] at this; cases this
  ·have:=Zeo hb' I.ct fun o ho e he hbd => I.ct k hk o ho e he hbd
   rw [hun] at this; cases this
 -- in general: a value,a memory that has grown
 have main : ∀ (v : AV) (h' : Heap) (δ : List Blk) (p' : Option Nat),h'.b = h.b ++ δ→h'.f = h.f→(anyT l = true→p' = none)→(∀ p,p' = some p→p = h.b.length∧δ≠[])→(∀ x ∈ δ,p' = some h.b.length∧δ = [x]) →
   ((guardV e io.guard = some true∧evQ G F e h.mem (p'.getD 0) io.op = some (v,δ,[]))∨(guardV e io.guard = some false∧v = .tup []∧δ = [])) →
   TInv C A n0 G F ops l L (fun k => if k = j then p' else pn k) (ins tr j) ms (putE io.dst v e) h' S a:=by
  intro v h' δ p' hb hf hp0 hp1 hp2 hvv
  have hcg : ∀ k y,l[k]? = some y→(k = j∨tr k = true)→∀ t ∈ readsOf y,getE (putE io.dst v e) t = getE e t:=fun k y hy hk t ht => by
   rw [ZbF,if_neg]
   intro hd
   exact hnr k y hy hk t hd ht
  have hcongr : ∀ k y (m : Mem) (p : Nat),l[k]? = some y→(k = j∨tr k = true)→evQ G F (putE io.dst v e) m p y.op = evQ G F e m p y.op:=fun k y m p hy hk => Zjq fun t ht => hcg k y hy hk t (List.mem_append_left _ ht)
  have hgc : ∀ k y,l[k]? = some y→(k = j∨tr k = true)→guardV (putE io.dst v e) y.guard = guardV e y.guard:=fun k y hy hk => ZkJ (hcg k y hy hk)
  have hold : ∀ b x,h.mem b = some x→h'.mem b = some x:=fun b x hx => by
   show h'.b[b]? = _
   rw [hb,List.getElem?_append_left (List.getElem?_eq_some_iff.1 hx).1]; exact hx
  have mono : h.b.length≤h'.b.length:=by rw [hb,List.length_append]; omega
  refine ⟨fun i hi => ?_,fun i hi => ?_,Zfm I.ct hrd,I.cm,I.L,I.size,fun t ht => ?_,fun k y hy hk hmk => ?_,fun i k p hi hmi hk hmk hik hp => ?_,fun i p hi hmi hp => ?_,?_,I.g⟩
  ·unfold ins; split
   ·rfl
   ·exact I.sub i hi
  ·by_cases hij : i = j
   ·subst hij; exact (List.getElem?_eq_some_iff.1 hio).1
   ·rw [insj i hij] at hi; exact I.lt i hi
  ·rw [ZbF,if_neg (fun q => ht j io hio (by unfold ins; rw [if_pos rfl]) hmj q)]
   refine I.env t fun k y hy hk hmk => ht k y hy ?_ hmk
   unfold ins; split
   ·rfl
   ·exact hk
  ·by_cases hkj : k = j
   ·subst hkj
    rw [hio] at hy; cases hy
    refine ⟨hea,fun q => by rw [if_pos rfl]; exact hp0 q,v,δ,fun t ht => by rw [ZbF,if_pos ht],?_,fun x hx => ?_⟩
    ·rw [if_pos rfl,hgc k io hio (.inl rfl),hcongr k io _ _ hio (.inl rfl),(hm G F e h'.mem h.mem _).1]; exact hvv
    ·obtain ⟨q1,q2⟩:=hp2 x hx
     refine ⟨h.b.length,by rw [if_pos rfl]; exact q1,?_,Zlj I.hr (Nat.le_refl _)⟩
     show h'.b[h.b.length]? = _
     rw [hb,q2]; simp
   ·rw [insj k hkj] at hk
    obtain ⟨he,p0,v',δ',p1,p2,p3⟩:=I.pend k y hy hk hmk
    refine ⟨he,fun q => by rw [if_neg hkj]; exact p0 q,v',δ',fun t ht => ?_,?_,fun x hx => ?_⟩
    ·rw [ZbF,if_neg (fun q => (hfree.ssa j k io y t hio hy q).2 (fun r => hkj r.symm) ht)]; exact p1 t ht
    ·rw [if_neg hkj,hgc k y hy (.inr hk),hcongr k y _ _ hy (.inr hk),((Zlo he).2 G F e h'.mem h.mem _).1]; exact p2
    ·obtain ⟨p,q1,q2,q3⟩:=p3 x hx
     exact ⟨p,by rw [if_neg hkj]; exact q1,hold _ _ q2,q3⟩
  ·by_cases h1 : i = j
   ·subst h1
    rw [if_pos rfl] at hp
    rw [if_neg (fun q => hik q.symm)]
    rw [insj k (fun q => hik q.symm)] at hk
    intro q
    have:=I.low k p hk hmk q
    have:=(hp1 p hp).1
    omega
   ·rw [if_neg h1] at hp
    rw [insj i h1] at hi
    by_cases h2 : k = j
    ·subst h2
     rw [if_pos rfl]
     intro q
     have:=I.low i p hi hmi hp
     have:=(hp1 p q).1
     omega
    ·rw [if_neg h2]
     rw [insj k h2] at hk
     exact I.dis i k p hi hmi hk hmk hik hp
  ·by_cases h1 : i = j
   ·subst h1
    rw [if_pos rfl] at hp
    obtain ⟨q1,q2⟩:=hp1 p hp
    rw [hb,List.length_append,q1]
    have : δ.length≠0:=fun q => q2 (List.length_eq_zero_iff.1 q)
    omega
   ·rw [if_neg h1] at hp
    rw [insj i h1] at hi
    exact Nat.lt_of_lt_of_le (I.low i p hi hmi hp) mono
  ·refine I.hr.ext (fun b i hi => ?_) (fun b hb' => ?_)
   ·obtain ⟨x,hx⟩:=I.hr.dom b i hi
    rw [hx]; exact hold b x hx
   ·show b ∈ h'.f
    rw [hf]; exact hb'
 simp only [evOps] at hev
 split at hev
 ·next hg =>
  split at hev
  ·next v h' hop =>
   simp only [Option.some.injEq,Prod.mk.injEq] at hev
   obtain ⟨rfl,rfl⟩:=hev
   obtain ⟨δ,fr,hq,hb,hf⟩:=Zey hw hop
   have hfr:=(hm G F e h.mem h.mem h.b.length).2 v δ fr hq
   subst hfr
   by_cases hs : sens io.op = true
   ·refine ⟨_,main v h' δ (some h.b.length) hb hf (fun q => ?_) (fun p hp => ?_) (fun x hx => ⟨rfl,?_⟩) (.inl ⟨hg,hq⟩)⟩
    ·rw [Zvl (q ▸ hea)] at hs; cases hs
    ·cases hp; exact ⟨rfl,Zsc hea hs hq⟩
    ·rcases ZnD hq with rfl | ⟨y,rfl⟩
     ·cases hx
     ·simp at hx; subst hx; rfl
   ·have hs : sens io.op = false:=by simpa using hs
    have hd:=(Zha hs hq).1
    subst hd
    exact ⟨_,main v h' [] none hb hf (fun _ => rfl) (fun p hp => by cases hp) (fun x hx => by cases hx) (.inl ⟨hg,by rw [ZpD (h2:=h.mem) (p2:=h.b.length) hs]; exact hq⟩)⟩
  ·cases hev
 ·next hg =>
  simp only [Option.some.injEq,Prod.mk.injEq] at hev
  obtain ⟨rfl,rfl⟩:=hev
  exact ⟨_,main (.tup []) h [] none (by simp) rfl (fun _ => rfl) (fun p hp => by cases hp) (fun x hx => by cases hx) (.inr ⟨hg,rfl,rfl⟩)⟩
 ·cases hev
theorem TInv.late (hl : mapO (compOper C ops) ops.toList = some l) (hfree : TFree ops l) {L : Nat→Option FuncId} (hL : Link C L) (hF : CallsOK C.P L G F) {pn : Nat→Option Nat} {tr ms : Nat→Bool} {e : Env} {h : Heap} {S : Sc} {a : Act} (I : TInv C A n0 G F ops l L pn tr ms e h S a)
  {i : Nat} (hi : i < l.length) (htr : tr i = true) (hms : ms i = false) (hrd : ∀ o,ops[i]? = some o→∀ e ∈ o.after,Region.binds .any e = true→ms e.on = true) {Q : Exit→Act→World→Prop} {K : Act→World→Prop}
  (hK : ∀ (S' : Sc) (u : Value),S.Le S'→Go.RowKit.Below n0 S.w S'.w→TInv C A n0 G F ops l L pn tr (ins ms i) e h S' (a.put ((ops[i]?).bind (·.dst)) u)→K (a.put ((ops[i]?).bind (·.dst)) u) S'.w) :
  wpOp C.P ops Q i K a S.w:=by
 have hio : l[i]? = some l[i]:=List.getElem?_eq_getElem hi
 generalize hx : l[i] = io at hio
 obtain ⟨o,ho,hc⟩:=Zkj hl i io hio
 rw [Array.getElem?_toList] at ho
 obtain ⟨c1,c2,c3,c4⟩:=ZfP hc
 have hdst : (ops[i]?).bind (·.dst) = o.dst:=by rw [ho]; rfl
 rw [hdst] at hK
 obtain ⟨hea,_,v,δ,p1,p2,p3⟩:=I.pend i io hio htr hms
 obtain ⟨hw,hm⟩:=Zlo hea
 obtain ⟨em,hE,hem⟩:=I.mask
 have hr:=I.reads hfree hio hrd
 have hgv : guardV em io.guard = guardV e io.guard:=ZkJ fun t ht => hem t (hr t ht)
 have insm : ∀ j,j≠i→ins ms i j = ms j:=fun j hj => by unfold ins; rw [if_neg hj]
 have stage : ∀ (S' : Sc) (u : Value),S.Le S'→HR A n0 S' h.mem h.fz→Rel S' v u→(∀ b,δ = []∨b≠(pn i).getD 0→S'.ι b = S.ι b)→TInv C A n0 G F ops l L pn tr (ins ms i) e h S' (a.put o.dst u):=by
  intro S' u hle hh hv hid
  refine ⟨fun j hj => ?_,I.lt,I.ct,Zfm I.cm hrd,hle.L.trans I.L,?_,fun t ht => ?_,fun j y hy hj hmj => ?_,fun j k p hj hmj hk hmk => ?_,fun j p hj hmj => ?_,hh,I.g.mono hle⟩
  ·by_cases hji : j = i
   ·subst hji; exact htr
   ·rw [insm j hji] at hj; exact I.sub j hj
  ·rw [Zui]; exact I.size
  ·rw [← c3,ZxY I.size c4]
   by_cases hd : io.dst = some t
   ·rw [if_pos hd,p1 t hd]; exact hv
   ·rw [if_neg hd]
    refine (I.env t fun j y hy hj hmj => ?_).mono hle
    by_cases hji : j = i
    ·subst hji; rw [hio] at hy; cases hy; exact hd
    ·exact ht j y hy hj (by rw [insm j hji]; exact hmj)
  ·have hji : j≠i:=fun q => by subst q; unfold ins at hmj; rw [if_pos rfl] at hmj; cases hmj
   rw [insm j hji] at hmj
   obtain ⟨k1,k0,v',δ',k2,k3,k4⟩:=I.pend j y hy hj hmj
   refine ⟨k1,k0,v',δ',k2,k3,fun x hx => ?_⟩
   obtain ⟨p,q1,q2,q3⟩:=k4 x hx
   refine ⟨p,q1,q2,?_⟩
   rw [hid p ?_]; exact q3
   cases δ with
   | nil => exact .inl rfl
   | cons z zs =>
    obtain ⟨p',r1,_,_⟩:=p3 z (List.mem_cons_self ..)
    right
    rw [r1,Option.getD_some]
    intro he
    subst he
    exact I.dis j i p hj hmj htr hms hji q1 r1
  ·have hji : j≠i:=fun q => by subst q; unfold ins at hmj; rw [if_pos rfl] at hmj; cases hmj
   have hki : k≠i:=fun q => by subst q; unfold ins at hmk; rw [if_pos rfl] at hmk; cases hmk
   rw [insm j hji] at hmj
   rw [insm k hki] at hmk
   exact I.dis j k p hj hmj hk hmk
  ·have hji : j≠i:=fun q => by subst q; unfold ins at hmj; rw [if_pos rfl] at hmj; cases hmj
   rw [insm j hji] at hmj
   exact I.low j p hj hmj
 unfold wpOp
 rw [ho]
 simp only
 rcases p2 with ⟨hg,hq0⟩ | ⟨hg,rfl,rfl⟩
 ·have hq : evQ G F em h.mem ((pn i).getD 0) io.op = some (v,δ,[]):=by
   rw [Zjq (e':=e) fun t ht => hem t (hr t (List.mem_append_left _ ht))]; exact hq0
  have hwant:=ZhJ hE c2 (hgv.trans hg)
  rw [hwant,if_pos rfl]
  refine .inl (Zjm (q_ok (I.L ▸ hL) hE I.hr (fun _ _ q => q) I.g (I.L ▸ hF) c1 hq (fun x hx => ?_) (fun hne => ?_) (fun b hb => by cases hb)) ?_)
  ·obtain ⟨p,q1,q2,_⟩:=p3 x hx
   rw [q1]; exact q2
  ·cases δ with
   | nil => exact absurd rfl hne
   | cons x xs =>
    obtain ⟨p,q1,_,q3⟩:=p3 x (List.mem_cons_self ..)
    rw [q1]; exact q3
  ·rintro u w' ⟨S',rfl,ok,hv,hid⟩
   exact hK S' u ok.le ok.below (stage S' u ok.le ok.hr hv hid)
 ·have hwant:=ZhJ hE c2 (hgv.trans hg)
  rw [hwant]
  simp only [Bool.false_eq_true,if_false]
  exact hK S undef (.refl S) (.refl _ _) (stage S undef (.refl S) I.hr (by simp [Rel,undef,RelL]) (fun _ _ => rfl))
theorem Zvj {op : Op} {io : IOp} (h : compOp C op = some io) : (∀ n a v,io = .store n a v→∃ x,compOpd C x = some a)∧∀ sz b x y,io = .app sz b x y→∃ z,compOpd C z = some x:=by
 cases op <;> simp only [compOp,reduceCtorEq,Option.map_eq_some_iff] at h
 case store t x y =>
  split at h
  ·next inf x' y' hi hx hy =>
   cases h
   exact ⟨fun n a v q => (by cases q; exact ⟨x,hx⟩),fun _ _ _ _ q => (by cases q)⟩
  ·cases h
 case call c =>
  obtain ⟨callee,args,argTypes⟩:=c
  cases callee with
  | invoke r m => simp at h
  | builtin b =>
   cases b <;> simp only [reduceCtorEq] at h
   case append =>
    split at h
    ·split at h
     ·next el el' x' y' ht ht' hx hy =>
      split at h
      ·split at h
       ·cases h
       ·cases h
        exact ⟨fun _ _ _ q => (by cases q),fun _ _ _ _ q => (by cases q; exact ⟨_,hx⟩)⟩
      ·cases h
     ·cases h
    ·cases h
   all_goals
    (repeat' split at h)
    all_goals first
     | (obtain ⟨_,_,rfl⟩:=h; exact ⟨fun _ _ _ q => (by cases q),fun _ _ _ _ q => (by cases q)⟩)
     | (simp only [Option.map_eq_some_iff] at h; obtain ⟨_,_,rfl⟩:=h; exact ⟨fun _ _ _ q => (by cases q),fun _ _ _ _ q => (by cases q)⟩)
     | (cases h; exact ⟨fun _ _ _ q => (by cases q),fun _ _ _ _ q => (by cases q)⟩)
     | (cases h; done)
  | value f =>
   simp only at h
   (repeat' split at h)
   all_goals first
    | (cases h; exact ⟨fun _ _ _ q => (by cases q),fun _ _ _ _ q => (by cases q)⟩)
    | (cases h; done)
 all_goals
  (repeat' split at h)
  all_goals first
   | contradiction
   | (obtain ⟨_,_,rfl⟩:=h; exact ⟨fun _ _ _ q => (by cases q),fun _ _ _ _ q => (by cases q)⟩)
   | (simp only [Option.map_eq_some_iff] at h; obtain ⟨_,_,rfl⟩:=h; exact ⟨fun _ _ _ q => (by cases q),fun _ _ _ _ q => (by cases q)⟩)
   | (cases h; exact ⟨fun _ _ _ q => (by cases q),fun _ _ _ _ q => (by cases q)⟩)
   | (cases h; done)
theorem ZwX {em : Env} {h h1 : Heap} {S : Sc} {a : Act} {op : Op} {io : IOp} {v : AV} (hL : Link C S.L) (hE : EnvR S C.N em a) (hop : compOp C op = some io) (hc : callT io = false) (hev : evW G F em h io = some (v,h1)) :
  (∀ p,p < h.b.length→S.ι p = none→h1.mem p = h.mem p)∧h.b.length≤h1.b.length:=by
 obtain ⟨k1,k2⟩:=Zvj hop
 cases io <;> simp only [evW,reduceCtorEq] at hev
 case store n ax vx =>
  obtain ⟨x,hx⟩:=k1 n ax vx rfl
  have hr:=Zav hL hE hx
  split at hev
  ·next b off hb =>
   rw [hb] at hr
   obtain ⟨i,hi,_⟩:=ZoY hr
   split at hev
   ·simp only [Option.map_eq_some_iff] at hev
    obtain ⟨h2,hwr,he⟩:=hev
    simp only [Prod.mk.injEq] at he
    obtain ⟨_,rfl⟩:=he
    unfold wrBlk at hwr
    split at hwr
    ·split at hwr
     ·simp only [Option.some.injEq] at hwr
      rw [← hwr]
      refine ⟨fun p hp hn => ?_,by simp⟩
      have hne : p≠b:=fun q => by rw [q,hi] at hn; cases hn
      show (List.set _ b _)[p]? = _
      rw [List.getElem?_set,if_neg (fun q => hne q.symm)]; rfl
     ·cases hwr
    ·cases hwr
   ·cases hev
  ·cases hev
 case app sz bytes x y =>
  obtain ⟨z,hz⟩:=k2 sz bytes x y rfl
  have hr:=Zav hL hE hz
  split at hev
  ·next m new hsl =>
   cases hxv : opd em x <;> rw [hxv] at hev hr <;> simp only [reduceCtorEq] at hev
   case nil =>
    split at hev
    ·simp only [Option.some.injEq,Prod.mk.injEq] at hev
     obtain ⟨_,rfl⟩:=hev
     exact ⟨fun _ _ _ => rfl,Nat.le_refl _⟩
    ·split at hev
     ·simp only [Option.some.injEq,Prod.mk.injEq] at hev
      obtain ⟨_,rfl⟩:=hev
      refine ⟨fun p hp _ => ?_,by simp⟩
      show (h.b ++ _)[p]? = h.b[p]?
      rw [List.getElem?_append_left hp]
     ·cases hev
   case own b off n s =>
    simp only [Rel] at hr
    obtain ⟨i,c,hi,_⟩:=hr
    split at hev
    ·split at hev
     ·simp only [Option.some.injEq,Prod.mk.injEq] at hev
      obtain ⟨_,rfl⟩:=hev
      refine ⟨fun p hp hn => ?_,by simp⟩
      have hne : p≠b:=fun q => by rw [q,hi] at hn; cases hn
      show (List.set h.b b _ ++ _)[p]? = h.b[p]?
      rw [List.getElem?_append_left (by simpa using hp),List.getElem?_set,if_neg (fun q => hne q.symm)]
     ·cases hev
    ·cases hev
  ·cases hev
 case call inl f as =>
  cases inl
  ·simp at hev
  ·simp [callT] at hc
theorem TInv.now (hl : mapO (compOper C ops) ops.toList = some l) (hfree : TFree ops l) {L : Nat→Option FuncId} (hL : Link C L) (hF : CallsOK C.P L G F) {pn : Nat→Option Nat} {tr ms : Nat→Bool} {e e1 : Env} {h h1 : Heap} {S : Sc} {a : Act} (I : TInv C A n0 G F ops l L pn tr ms e h S a)
  {i : Nat} {io : IOper} (hio : l[i]? = some io) (htr : tr i = false) (hrd : ∀ o,ops[i]? = some o→∀ e ∈ o.after,Region.binds .any e = true→ms e.on = true) (hev : evOps G F [io] e h = some (e1,h1)) {Q : Exit→Act→World→Prop} {K : Act→World→Prop}
  (hK : ∀ (S' : Sc) (u : Value),S.Le S'→Go.RowKit.Below n0 S.w S'.w→TInv C A n0 G F ops l L pn (ins tr i) (ins ms i) e1 h1 S' (a.put ((ops[i]?).bind (·.dst)) u)→K (a.put ((ops[i]?).bind (·.dst)) u) S'.w) :
  wpOp C.P ops Q i K a S.w:=by
 obtain ⟨o,ho,hc⟩:=Zkj hl i io hio
 rw [Array.getElem?_toList] at ho
 obtain ⟨c1,c2,c3,c4⟩:=ZfP hc
 have hdst : (ops[i]?).bind (·.dst) = o.dst:=by rw [ho]; rfl
 rw [hdst] at hK
 have hms : ms i = false:=by
  cases q : ms i with
  | false => rfl
  | true => rw [I.sub i q] at htr; cases htr
 obtain ⟨em,hE,hem⟩:=I.mask
 have hr:=I.reads hfree hio hrd
 have hcg : ∀ t ∈ readsOf io,getE em t = getE e t:=fun t ht => hem t (hr t ht)
 have hgv : guardV em io.guard = guardV e io.guard:=by
  cases hgd : io.guard with
  | none => rfl
  | some p =>
   simp only [guardV]
   rw [hcg p.1 (by simp [readsOf,hgd])]
 have insm : ∀ j,j≠i→ins ms i j = ms j:=fun j hj => by unfold ins; rw [if_neg hj]
 have inst : ∀ j,j≠i→ins tr i j = tr j:=fun j hj => by unfold ins; rw [if_neg hj]
 have hrd' : ∀ o,ops[i]? = some o→∀ e ∈ o.after,Region.binds .any e = true→tr e.on = true:=fun o ho e he hb => I.sub _ (hrd o ho e he hb)
 have hnr : ∀ k y,l[k]? = some y→tr k = true→∀ d,io.dst = some d→d ∉ readsOf y:=by
  intro k y hy hk d hd hq
  have:=Zeo ((hfree.ssa i k io y d hio hy hd).1 hq) I.ct fun o ho e he hbd => I.ct k hk o ho e he hbd
  rw [htr] at this; cases this
 -- where we stand behind it
 have stage : ∀ (S' : Sc) (u : Value) (v : AV),S.Le S'→Rel S' v u→e1 = putE io.dst v e→HR A n0 S' h1.mem h1.fz→(anyT l = true∨(∀ p x,p < h.b.length→S.ι p = none→h.mem p = some x→h1.mem p = some x∧S'.ι p = none)∧h.b.length≤h1.b.length) →
   TInv C A n0 G F ops l L pn (ins tr i) (ins ms i) e1 h1 S' (a.put o.dst u):=by
  intro S' u v hle hv he1 hh hkl
  subst he1
  have ne : ∀ j,ins tr i j = true→ins ms i j = false→j≠i∧tr j = true∧ms j = false:=fun j h1 h2 => by
   have hji : j≠i:=fun q => by subst q; unfold ins at h2; rw [if_pos rfl] at h2; cases h2
   rw [inst j hji] at h1
   rw [insm j hji] at h2
   exact ⟨hji,h1,h2⟩
  refine ⟨fun j hj => ?_,fun j hj => ?_,Zfm I.ct hrd',Zfm I.cm hrd,hle.L.trans I.L,?_,fun t ht => ?_,fun j y hy hj hmj => ?_,fun j k p hj hmj hk hmk hjk => ?_,fun j p hj hmj hp => ?_,hh,I.g.mono hle⟩
  ·by_cases hji : j = i
   ·subst hji; unfold ins; rw [if_pos rfl]
   ·rw [insm j hji] at hj; rw [inst j hji]; exact I.sub j hj
  ·by_cases hji : j = i
   ·subst hji; exact (List.getElem?_eq_some_iff.1 hio).1
   ·rw [inst j hji] at hj; exact I.lt j hj
  ·rw [Zui]; exact I.size
  ·rw [← c3,ZxY I.size c4,ZbF]
   by_cases hd : io.dst = some t
   ·rw [if_pos hd,if_pos hd]; exact hv
   ·rw [if_neg hd,if_neg hd]
    refine (I.env t fun j y hy hj hmj => ?_).mono hle
    by_cases hji : j = i
    ·subst hji; rw [hio] at hy; cases hy; exact hd
    ·exact ht j y hy (by rw [inst j hji]; exact hj) (by rw [insm j hji]; exact hmj)
  ·obtain ⟨hji,hj,hmj⟩:=ne j hj hmj
   obtain ⟨k1,k0,v',δ',k2,k3,k4⟩:=I.pend j y hy hj hmj
   refine ⟨k1,k0,v',δ',fun t ht => ?_,?_,fun x hx => ?_⟩
   ·rw [ZbF,if_neg (fun q => (hfree.ssa i j io y t hio hy q).2 (fun r => hji r.symm) ht)]; exact k2 t ht
   ·have hcg' : ∀ t ∈ readsOf y,getE (putE io.dst v e) t = getE e t:=fun t ht => by rw [ZbF,if_neg (fun q => hnr j y hy hj t q ht)]
    rw [ZkJ hcg',Zjq (e':=e) fun t ht => hcg' t (List.mem_append_left _ ht),((Zlo k1).2 G F e h1.mem h.mem _).1]
    exact k3
   ·obtain ⟨p,q1,q2,q3⟩:=k4 x hx
    rcases hkl with hT | ⟨hkeep,_⟩
    ·rw [k0 hT] at q1; cases q1
    ·obtain ⟨r1,r2⟩:=hkeep p x (I.low j p hj hmj q1) q3 q2
     exact ⟨p,q1,r1,r2⟩
  ·obtain ⟨_,hj,hmj⟩:=ne j hj hmj
   obtain ⟨_,hk,hmk⟩:=ne k hk hmk
   exact I.dis j k p hj hmj hk hmk hjk
  ·obtain ⟨_,hj,hmj⟩:=ne j hj hmj
   rcases hkl with hT | ⟨_,hlen⟩
   ·exact absurd hp (by
     have hlt : j < l.length:=I.lt j hj
     rw [(I.pend j _ (List.getElem?_eq_getElem hlt) hj hmj).2.1 hT]; simp)
   ·exact Nat.lt_of_lt_of_le (I.low j p hj hmj hp) hlen
 unfold wpOp
 rw [ho]
 simp only
 rw [ZhI] at hev
 cases hg : guardV e io.guard with
 | none => rw [hg] at hev; cases hev
 | some b =>
  rw [hg] at hev
  have hwant:=ZhJ hE c2 (hgv.trans hg)
  rw [hwant]
  cases b
  ·simp only [Bool.false_eq_true,if_false]
   simp only [evOps,Option.some.injEq,Prod.mk.injEq] at hev
   obtain ⟨rfl,rfl⟩:=hev
   exact hK S undef (.refl S) (.refl _ _) (stage S undef (.tup []) (.refl S) (by simp [Rel,undef,RelL]) rfl I.hr (.inr ⟨fun p x _ hn hx => ⟨hx,hn⟩,Nat.le_refl _⟩))
  ·simp only [if_true]
   simp only at hev
   cases hop : evOp G F e h io.op with
   | none => rw [hop] at hev; cases hev
   | some r2 =>
    obtain ⟨v,h2⟩:=r2
    rw [hop] at hev
    simp only [Option.bind_some,evOps,Option.some.injEq,Prod.mk.injEq] at hev
    obtain ⟨rfl,rfl⟩:=hev
    have htm : ∀ t ∈ tmpsOf io.op,getE em t = getE e t:=fun t ht => hcg t (List.mem_append_left _ ht)
    cases hw : isW io.op with
    | true =>
     have hw':=Zmk hw hop
     rw [← ZqQ htm] at hw'
     refine .inl (Zjm (ZGQ (I.L ▸ hL) hE I.hr I.g (I.L ▸ hF) c1 hw') ?_)
     rintro u w' ⟨S',rfl,ok,hv,hid⟩
     refine hK S' u ok.le ok.below (stage S' u v ok.le hv rfl ok.hr ?_)
     cases hct : callT io.op with
     | true => exact .inl (Zzq hio hct)
     | false =>
      obtain ⟨f1,f2⟩:=ZwX (I.L ▸ hL) hE c1 hct hw'
      refine .inr ⟨fun p x hp hn hx => ⟨by rw [f1 p hp hn]; exact hx,?_⟩,f2⟩
      rcases hid with ⟨f,as,q⟩ | hid
      ·rw [q] at hct; cases hct
      ·rw [hid p (by omega)]; exact hn
    | false =>
     obtain ⟨δ,fr,hq,hb,hf⟩:=Zey hw hop
     rw [← Zjq htm] at hq
     have hle : ∀ (b : Nat) (k : Blk),h.mem b = some k→h2.mem b = some k:=fun b k hb' => by
      show h2.b[b]? = _
      rw [hb,List.getElem?_append_left (List.getElem?_eq_some_iff.1 hb').1]; exact hb'
     have H2 : HR A n0 S h2.mem h2.fz:=I.hr.ext (fun b i hi => by
      obtain ⟨k,hk⟩:=I.hr.dom b i hi
      rw [hk,hle b k hk]) (fun b hb' => by show b ∈ h2.f; rw [hf]; exact List.mem_append_right _ hb')
     refine .inl (Zjm (q_ok (I.L ▸ hL) hE H2 hle I.g (I.L ▸ hF) c1 hq (fun x hx => ?_) (fun _ => Zlj I.hr (Nat.le_refl _)) (fun b hb' => by show b ∈ h2.f; rw [hf]; exact List.mem_append_left _ hb')) ?_)
     ·show h2.b[h.b.length]? = _
      rw [hb]
      rcases ZnD hq with rfl | ⟨y,rfl⟩
      ·cases hx
      ·simp at hx; subst hx; simp
     ·rintro u w' ⟨S',rfl,ok,hv,hid⟩
      refine hK S' u ok.le ok.below (stage S' u v ok.le hv rfl ok.hr (.inr ⟨fun p x hp hn hx => ⟨hle p x hx,?_⟩,by rw [hb,List.length_append]; omega⟩))
      rw [hid p (.inr (by omega))]; exact hn
theorem Zmm {listed : Array Bool} (hsz : listed.size = ops.size) {i : Nat} (hi : i < ops.size) : (fun j => (listed.setIfInBounds i true).getD j false) = ins (fun j => listed.getD j false) i:=by
 funext j
 unfold ins
 by_cases hj : j = i
 ·subst hj
  rw [if_pos rfl,Array.getD_eq_getD_getElem?,Array.getElem?_setIfInBounds_self_of_lt (by omega)]; rfl
 ·rw [if_neg hj,Array.getD_eq_getD_getElem?,Array.getElem?_setIfInBounds_ne (fun q => hj q.symm),← Array.getD_eq_getD_getElem?]
theorem Zny (hll : l.length = ops.size) (hfree : TFree ops l) {L : Nat→Option FuncId} {fin : Env→Heap→Option (Env × Heap)} {r : Env × Heap} {ms : Nat→Bool} {S : Sc} {a : Act} :
  ∀ (n : Nat) (tl : Array Bool) (pn : Nat→Option Nat) (e : Env) (h : Heap),tl.size = ops.size→evT G F l fin (treeC ops l n tl) e h = some r→TInv C A n0 G F ops l L pn (fun i => tl.getD i false) ms e h S a →
  ∃ (n' : Nat) (tl' : Array Bool) (pn' : Nat→Option Nat) (e' : Env) (h' : Heap),evT G F l fin (treeC ops l n' tl') e' h' = some r∧tl'.size = ops.size∧TInv C A n0 G F ops l L pn' (fun i => tl'.getD i false) ms e' h' S a ∧
   ((Region.ready .any ops tl' = []∧fin e' h' = some r)∨(Region.ready .any ops tl'≠[]∧∃ m,∀ i ∈ Region.ready .any ops tl',eagerAt l i = false∧evT G F l fin (.op i (treeC ops l m (tl'.setIfInBounds i true))) e' h' = some r))
 | 0,tl,pn,e,h,hsz,hev,I => by
  have hev0:=hev
  simp only [treeC] at hev
  split at hev
  ·next hr => exact ⟨0,tl,pn,e,h,hev0,hsz,I,.inl ⟨hr,by simpa only [evT] using hev⟩⟩
  ·simp [evT] at hev
 | n + 1,tl,pn,e,h,hsz,hev,I => by
  have hev0:=hev
  simp only [treeC] at hev
  split at hev
  ·next i hf =>
   have hmem:=List.mem_of_find?_eq_some hf
   have hea:=List.find?_some hf
   obtain ⟨h1,h2,h3⟩:=(Zef hsz).1 hmem
   have hio : l[i]? = some l[i]:=List.getElem?_eq_getElem (by omega)
   unfold eagerAt at hea
   rw [hio] at hea
   simp only [evT,hio] at hev
   cases hop : evOps G F [l[i]] e h with
   | none => rw [hop] at hev; cases hev
   | some q =>
    obtain ⟨e1,h1'⟩:=q
    rw [hop,Option.bind_some] at hev
    obtain ⟨pn',I'⟩:=I.early hfree hio h2 h3 hea hop
    rw [← Zmm hsz h1] at I'
    exact Zny hll hfree n _ _ e1 h1' (by simpa using hsz) hev I'
  ·next hf =>
   cases hr : Region.ready .any ops tl with
   | nil =>
    rw [hr] at hev
    exact ⟨n + 1,tl,pn,e,h,hev0,hsz,I,.inl ⟨hr,by simpa only [List.map_nil,altT,evT] using hev⟩⟩
   | cons x xs =>
    refine ⟨n + 1,tl,pn,e,h,hev0,hsz,I,.inr ⟨by rw [hr]; simp,n,fun i hi => ⟨?_,?_⟩⟩⟩
    ·have:=List.find?_eq_none.1 hf i hi
     simpa using this
    ·exact ZsS hev _ (List.mem_map.2 ⟨i,hi,rfl⟩)
theorem Zzr (hl : mapO (compOper C ops) ops.toList = some l) (hfree : TFree ops l) {L : Nat→Option FuncId} (hL : Link C L) (hF : CallsOK C.P L G F) {fin : Env→Heap→Option (Env × Heap)} {Q : Exit→Act→World→Prop} {S0 : Sc} {df : List Deferred} {r : Env × Heap}
  (hQ : ∀ (a' : Act) (e1 : Env) (h1 : Heap) (S' : Sc),fin e1 h1 = some r→S0.Le S'→Go.RowKit.Below n0 S0.w S'.w→HR A n0 S' h1.mem h1.fz→EnvR S' C.N e1 a'→a'.defers = df→Q .normal a' S'.w) :
  ∀ (fuel : Nat) (listed : Array Bool) (n : Nat) (tl : Array Bool) (pn : Nat→Option Nat) (e : Env) (h : Heap) (S : Sc) (a : Act),listed.size = ops.size→left ops.size (fun i => listed.getD i false)≤fuel→tl.size = ops.size →
   evT G F l fin (treeC ops l n tl) e h = some r→TInv C A n0 G F ops l L pn (fun i => tl.getD i false) (fun i => listed.getD i false) e h S a →
   S0.Le S→Go.RowKit.Below n0 S0.w S.w→a.defers = df→wpAny C.P .any ops Q fuel listed a S.w:=by
 have hll : l.length = ops.size:=by rw [Zdr hl]; simp
 have done : ∀ (listed : Array Bool) (n : Nat) (tl : Array Bool) (pn : Nat→Option Nat) (e : Env) (h : Heap) (S : Sc) (a : Act),listed.size = ops.size→tl.size = ops.size→Region.ready .any ops listed = [] →
   evT G F l fin (treeC ops l n tl) e h = some r→TInv C A n0 G F ops l L pn (fun i => tl.getD i false) (fun i => listed.getD i false) e h S a →
   S0.Le S→Go.RowKit.Below n0 S0.w S.w→a.defers = df→Q .normal a S.w:=by
  intro listed n tl pn e h S a hsz htz hr hev I hle hbe hdf
  have all : ∀ i,i < ops.size→listed.getD i false = true:=by
   intro i
   induction i using Nat.strongRecOn with
   | _ i ih =>
    intro hi
    cases hli : listed.getD i false with
    | true => rfl
    | false =>
     have : i ∈ Region.ready .any ops listed:=(Zef hsz).2 ⟨hi,hli,fun o ho e he hb => ih e.on (hfree.back i o ho e he hb) (by have:=hfree.back i o ho e he hb; omega)⟩
     rw [hr] at this; cases this
  obtain ⟨_,tl',pn',e',h',_,htz',I',hend⟩:=Zny hll hfree n tl pn e h htz hev I
  rcases hend with ⟨_,hfin⟩ | ⟨hne,_⟩
  ·refine hQ a e' h' S hfin hle hbe I'.hr ⟨I'.size,fun t => I'.env t fun j io hio _ hm => ?_⟩ hdf
   have:=all j (by rw [← hll]; exact (List.getElem?_eq_some_iff.1 hio).1)
   rw [this] at hm; cases hm
  ·exfalso
   obtain ⟨i,hi⟩:=List.exists_mem_of_ne_nil _ hne
   obtain ⟨h1,h2,_⟩:=(Zef htz').1 hi
   have h3:=I'.sub i (all i h1)
   rw [h2] at h3
   cases h3
 intro fuel
 induction fuel with
 | zero =>
  intro listed n tl pn e h S a hsz hfu htz hev I hle hbe hdf
  have hr : Region.ready .any ops listed = []:=by
   apply List.eq_nil_iff_forall_not_mem.2
   intro i hi
   obtain ⟨h1,h2,h3⟩:=(Zef hsz).1 hi
   have:=ZmP (ls:=fun j => listed.getD j false) h1 h2
   omega
  exact ⟨hr,done listed n tl pn e h S a hsz htz hr hev I hle hbe hdf⟩
 | succ fuel ih =>
  intro listed n tl pn e h S a hsz hfu htz hev I hle hbe hdf
  refine ⟨fun hr => done listed n tl pn e h S a hsz htz hr hev I hle hbe hdf,fun i hi => ?_⟩
  obtain ⟨h1,h2,h3⟩:=(Zef hsz).1 hi
  have hlf:=ZmP (ls:=fun j => listed.getD j false) h1 h2
  have hsz' : (listed.setIfInBounds i true).size = ops.size:=by simpa using hsz
  obtain ⟨n',tl',pn',e',h',hev',htz',I',hend⟩:=Zny hll hfree n tl pn e h htz hev I
  by_cases hti' : tl'.getD i false = true
  ·refine I'.late hl hfree hL hF (by omega) hti' h2 h3 fun S' u le be I2 => ?_
   rw [← Zmm hsz h1] at I2
   exact ih _ n' tl' pn' e' h' S' _ hsz' (by rw [Zmm hsz h1]; omega) htz' hev' I2 (hle.trans le) (hbe.trans be) (by rw [Zmo]; exact hdf)
  ·have hti' : tl'.getD i false = false:=by simpa using hti'
   have hmem : i ∈ Region.ready .any ops tl':=(Zef htz').2 ⟨h1,hti',fun o ho e he hb => I'.sub _ (h3 o ho e he hb)⟩
   rcases hend with ⟨hr,_⟩ | ⟨_,m,hall⟩
   ·rw [hr] at hmem; cases hmem
   ·obtain ⟨_,hop⟩:=hall i hmem
    have hio : l[i]? = some l[i]:=List.getElem?_eq_getElem (by omega)
    simp only [evT,hio] at hop
    cases hop' : evOps G F [l[i]] e' h' with
    | none => rw [hop'] at hop; cases hop
    | some q =>
     obtain ⟨e1,h1'⟩:=q
     rw [hop',Option.bind_some] at hop
     refine I'.now hl hfree hL hF hio hti' h3 hop' fun S' u le be I2 => ?_
     rw [← Zmm hsz h1,← Zmm htz' h1] at I2
     exact ih _ m _ pn' e1 h1' S' _ hsz' (by rw [Zmm hsz h1]; omega) (by simpa using htz') hop I2 (hle.trans le) (hbe.trans be) (by rw [Zmo]; exact hdf)
theorem ZDW (hm : C.P.follows .mixedOrders = true) (hl : mapO (compOper C ops) ops.toList = some l) (hto : treeOk ops l = true) {S : Sc} (hL : Link C S.L) (hF : CallsOK C.P S.L G F) {Q : Exit→Act→World→Prop} {h h' : Heap} {e e' : Env} {a : Act} {id : Nat} {keep : List Nat}
  (hev : evT G F l (finT keep) (treeC ops l ops.size (Array.replicate ops.size false)) e h = some (e',h')) (hE : EnvR S C.N e a) (H : HR A n0 S h.mem h.fz) (hG : Gok G S)
  (hQ : ∀ a' S',Ok A n0 S S' h'.mem h'.fz→EnvR S' C.N e' a'→a'.defers = a.defers→Q .normal a' S'.w) : (Code.region id ops true).wp C.P Q a S.w:=by
 refine wp_region_any hm ?_
 have dr:=Ok.drew H
 have hls : (fun i => (Array.replicate ops.size false).getD i false) = fun _ => false:=by
  funext i
  rw [Array.getD_eq_getD_getElem?,Array.getElem?_replicate]
  split <;> rfl
 have I : TInv C A n0 G F ops l S.L (fun _ => none) (fun i => (Array.replicate ops.size false).getD i false) (fun i => (Array.replicate ops.size false).getD i false) e h (S.at S.w.drew) a:=by
  rw [hls]
  exact ⟨fun i hi => hi,fun i hi => Bool.noConfusion hi,fun i hi => Bool.noConfusion hi,fun i hi => Bool.noConfusion hi,rfl,hE.size,fun t _ => (hE.get t).mono dr.le,fun j io _ hj => Bool.noConfusion hj,fun i j p hi => Bool.noConfusion hi,fun i p hi => Bool.noConfusion hi,dr.hr,hG.mono dr.le⟩
 refine Zzr hl (ZAn hto) hL hF (S0:=S.at S.w.drew) (df:=a.defers) (r:=(e',h')) ?_ ops.size (Array.replicate ops.size false) ops.size (Array.replicate ops.size false) _ e h (S.at S.w.drew) a (by simp) (by unfold left; exact Nat.le_trans (List.length_filter_le _ _) (by simp)) (by simp) hev I (.refl _) (.refl _ _) rfl
 intro a' e1 h1 S' hfin hle hbe H1 hE1 hdf
 unfold finT at hfin
 simp only [Option.some.injEq,Prod.mk.injEq] at hfin
 obtain ⟨rfl,rfl⟩:=hfin
 exact hQ a' S' ⟨dr.le.trans hle,H1,dr.below.trans hbe⟩ (ZnB hE1 keep) hdf
end
section
variable {P : Program} {L : Nat→Option FuncId} {G : Nat→Option (List AV)} {T : Tbl}
def CodeOK (P : Program) (L : Nat→Option FuncId) (G : Nat→Option (List AV)) (E : IC→Env→Heap→Option (Ex × Env × Heap)) : Prop :=
 ∀ (C : CC),C.P = P→Link C L→∀ (c : Code) (ic : IC),compC C c = some (erase ic)→∀ (e : Env) (h : Heap) (x : Ex) (e' : Env) (h' : Heap),E ic e h = some (x,e',h') →
  ∀ (A : Nat→Prop) (n0 : Nat) (S : Sc) (a : Act),S.L = L→EnvR S C.N e a→HR A n0 S h.mem h.fz→Gok G S →
  ∀ (Q : Exit→Act→World→Prop),(∀ a' S',Ok A n0 S S' h'.mem h'.fz→EnvR S' C.N e' a'→a'.defers = a.defers→Q (exOf x) a' S'.w)→c.wp P Q a S.w
def LoopOK (P : Program) (L : Nat→Option FuncId) (G : Nat→Option (List AV)) (E : IC→Env→Heap→Option (Ex × Env × Heap)) (k : Nat) : Prop :=
 ∀ (C : CC),C.P = P→Link C L→∀ (c : Code) (keep : List Nat) (ic : IC),compC C c = some (erase ic)→∀ (e : Env) (h : Heap) (x : Ex) (e' : Env) (h' : Heap),E (.loop keep ic) e h = some (x,e',h') →
  ∀ (A : Nat→Prop) (n0 : Nat) (S : Sc) (a : Act),S.L = L→EnvR S C.N e a→HR A n0 S h.mem h.fz→Gok G S →
  ∀ (Q : Exit→Act→World→Prop),(∀ a' S',Ok A n0 S S' h'.mem h'.fz→EnvR S' C.N e' a'→a'.defers = a.defers→Q (exOf x) a' S'.w)→Code.rounds P c Q k a S.w
theorem ZyS {P : Program} {Q : Exit→Act→World→Prop} {K : Act→World→Prop} {x : Ex} {a : Act} {w : World} (h : x≠.norm→Q (exOf x) a w) (k : x = .norm→K a w) : Exit.then K Q (exOf x) a w:=by
 cases x
 ·exact k rfl
 ·exact h (by simp)
 ·exact h (by simp)
theorem ZwI (hm : P.follows .mixedOrders = true) {k : Nat} (hF : CallsOK P L G (callB G T (ev G T k))) (ih : CodeOK P L G (ev G T k)) (ihl : LoopOK P L G (ev G T k) k) :
  CodeOK P L G (ev G T (k + 1))∧LoopOK P L G (ev G T (k + 1)) (k + 1):=by
 have lp : LoopOK P L G (ev G T (k + 1)) (k + 1):=by
  intro C hP hL c keep ic hc e h x e' h' hev A n0 S a hSL hE H hG Q hQ
  rw [ZpF] at hev
  cases hb : ev G T k ic (keepE keep e) h with
  | none => rw [hb] at hev; cases hev
  | some r =>
   obtain ⟨y,e1,h1⟩:=r
   rw [hb,Option.bind_some] at hev
   rw [rounds_succ]
   refine ih C hP hL c ic hc _ h y e1 h1 hb A n0 S a hSL (ZnB hE keep) H hG _ fun a1 S1 ok1 hE1 hd1 => ?_
   refine ZyS (P:=P) (fun hy => ?_) (fun hy => ?_)
   ·have : thenB (ev G T k (.loop keep ic)) (y,e1,h1) = some (y,e1,h1):=by cases y <;> first | rfl | exact absurd rfl hy
    rw [this] at hev
    simp only [Option.some.injEq,Prod.mk.injEq] at hev
    obtain ⟨rfl,rfl,rfl⟩:=hev
    exact hQ a1 S1 ok1 hE1 hd1
   ·subst hy
    exact ihl C hP hL c keep ic hc e1 h1 x e' h' hev A n0 S1 a1 (ok1.le.L.trans hSL) hE1 ok1.hr (hG.mono ok1.le) Q fun a2 S2 ok2 hE2 hd2 => hQ a2 S2 (ok1.trans ok2) hE2 (hd2.trans hd1)
 refine ⟨?_,lp⟩
 intro C hP hL c ic hc e h x e' h' hev A n0 S a hSL hE H hG Q hQ
 cases c <;> simp only [compC,reduceCtorEq,Option.map_eq_some_iff] at hc
 case skip =>
  cases ic <;> simp only [erase,Option.some.injEq,reduceCtorEq] at hc
  cases hev; exact wp_skip (hQ a S (.refl H) hE rfl)
 case ret =>
  cases ic <;> simp only [erase,Option.some.injEq,reduceCtorEq] at hc
  cases hev; exact wp_ret (hQ a S (.refl H) hE rfl)
 case exit id =>
  cases ic <;> simp only [erase,Option.some.injEq,reduceCtorEq,IC.exit.injEq] at hc
  subst hc
  cases hev; exact wp_exit (hQ a S (.refl H) hE rfl)
 case region id ops draw =>
  have go : ∀ {l : List IOper} {keep : List Nat} {chk : List (Nat × Nat)},mapO (compOper C ops) ops.toList = some l→(draw = true→drawOk ops l chk = true)→ev G T (k + 1) (.reg l keep chk) e h = some (x,e',h')→(Code.region id ops draw).wp P Q a S.w:=by
   intro l keep chk hl hd hev
   rw [Ztv] at hev
   cases hb : evOps G (callB G T (ev G T k)) l e h with
   | none => rw [hb] at hev; cases hev
   | some r =>
    obtain ⟨e1,h1⟩:=r
    rw [hb] at hev
    simp only [Option.bind_some] at hev
    split at hev
    ·next hck =>
     simp only [Option.some.injEq,Prod.mk.injEq] at hev
     obtain ⟨rfl,rfl,rfl⟩:=hev
     subst hP
     have hQ' : ∀ a' S',Ok A n0 S S' h1.mem h1.fz→EnvR S' C.N e1 a'→a'.defers = a.defers→Q .normal a' S'.w:=fun a' S' ok hE' hdf => hQ a' S' ok (ZnB hE' keep) hdf
     cases draw with
     | false => exact Zye hl (hSL ▸ hL) (hSL ▸ hF) hb hE H hG hQ'
     | true => exact ZCV hm hl (hd rfl) (hSL ▸ hL) (hSL ▸ hF) hb hck hE H hG hQ'
    ·cases hev
  split at hc
  ·next l hl =>
   split at hc
   ·next hdr =>
    split at hc
    ·next hd =>
     cases ic <;> simp only [erase,Option.some.injEq,reduceCtorEq,IC.reg.injEq] at hc
     obtain ⟨rfl,_,rfl⟩:=hc
     exact go hl (fun _ => hd) hev
    ·split at hc
     ·next hto =>
      cases ic <;> simp only [erase,Option.some.injEq,reduceCtorEq,IC.tree.injEq] at hc
      rename_i il it keep
      obtain ⟨rfl,rfl,_⟩:=hc
      rw [ZpG] at hev
      cases hb : evT G (callB G T (ev G T k)) l (finT keep) (treeC ops l ops.size (Array.replicate ops.size false)) e h with
      | none => rw [hb] at hev; cases hev
      | some r =>
       obtain ⟨e1,h1⟩:=r
       rw [hb] at hev
       simp only [Option.map_some,Option.some.injEq,Prod.mk.injEq] at hev
       obtain ⟨rfl,rfl,rfl⟩:=hev
       subst hP hdr
       exact ZDW hm hl hto (hSL ▸ hL) (hSL ▸ hF) hb hE H hG hQ
     ·cases ic <;> simp only [erase,Option.some.injEq,reduceCtorEq] at hc
      cases hev
   ·next hdr =>
    cases ic <;> simp only [erase,Option.some.injEq,reduceCtorEq,IC.reg.injEq] at hc
    obtain ⟨rfl,_,rfl⟩:=hc
    exact go hl (fun q => absurd q hdr) hev
  ·cases ic <;> simp only [erase,Option.some.injEq,reduceCtorEq] at hc
   cases hev
 case seq p q =>
  split at hc
  ·next ip iq hp hq =>
   cases ic <;> simp only [erase,Option.some.injEq,reduceCtorEq,IC.seq.injEq] at hc
   rename_i ia ib
   obtain ⟨rfl,rfl⟩:=hc
   rw [Ztw] at hev
   cases hb : ev G T k ia e h with
   | none => rw [hb] at hev; cases hev
   | some r =>
    obtain ⟨y,e1,h1⟩:=r
    rw [hb,Option.bind_some] at hev
    refine wp_seq (ih C hP hL p ia hp e h y e1 h1 hb A n0 S a hSL hE H hG _ fun a1 S1 ok1 hE1 hd1 => ?_)
    refine ZyS (P:=P) (fun hy => ?_) (fun hy => ?_)
    ·have : thenB (ev G T k ib) (y,e1,h1) = some (y,e1,h1):=by cases y <;> first | rfl | exact absurd rfl hy
     rw [this] at hev
     simp only [Option.some.injEq,Prod.mk.injEq] at hev
     obtain ⟨rfl,rfl,rfl⟩:=hev
     exact hQ a1 S1 ok1 hE1 hd1
    ·subst hy
     exact ih C hP hL q ib hq e1 h1 x e' h' hev A n0 S1 a1 (ok1.le.L.trans hSL) hE1 ok1.hr (hG.mono ok1.le) Q fun a2 S2 ok2 hE2 hd2 => hQ a2 S2 (ok1.trans ok2) hE2 (hd2.trans hd1)
  ·cases hc
 case cond co p q =>
  split at hc
  ·next io ip iq ho hp hq =>
   cases ic <;> simp only [erase,Option.some.injEq,reduceCtorEq,IC.cond.injEq] at hc
   rename_i oc ia ib
   obtain ⟨rfl,rfl,rfl⟩:=hc
   rw [ZpE] at hev
   have hr:=Zav (hSL ▸ hL) hE ho
   cases hv : opd e io <;> rw [hv] at hev hr <;> simp only [reduceCtorEq] at hev
   case bool t =>
    simp only [Rel] at hr
    cases t
    ·exact wp_cond_false hr (ih C hP hL q ib hq e h x e' h' (by simpa using hev) A n0 S a hSL hE H hG Q hQ)
    ·exact wp_cond_true hr (ih C hP hL p ia hp e h x e' h' (by simpa using hev) A n0 S a hSL hE H hG Q hQ)
  ·cases hc
 case block id p =>
  obtain ⟨ip,hp,hc⟩:=hc
  cases ic <;> simp only [erase,reduceCtorEq,IC.block.injEq] at hc
  rename_i id' ia
  obtain ⟨rfl,rfl⟩:=hc
  rw [ZmN] at hev
  cases hb : ev G T k ia e h with
  | none => rw [hb] at hev; cases hev
  | some r =>
   obtain ⟨y,e1,h1⟩:=r
   rw [hb] at hev
   simp only [Option.bind_some,Option.some.injEq,Prod.mk.injEq] at hev
   obtain ⟨rfl,rfl,rfl⟩:=hev
   refine wp_block (ih C hP hL p ia hp e h y e1 h1 hb A n0 S a hSL hE H hG _ fun a1 S1 ok1 hE1 hd1 => ?_)
   have hq1:=hQ a1 S1 ok1 hE1 hd1
   cases y with
   | norm => exact hq1
   | ret => exact hq1
   | exit j =>
    simp only [Ex.inBlock] at hq1
    simp only [exOf,Exit.inBlock]
    split at hq1
    ·next hj => subst hj; simpa [exOf] using hq1
    ·next hj => simpa [hj,exOf] using hq1
 case loop p =>
  obtain ⟨ip,hp,hc⟩:=hc
  cases ic <;> simp only [erase,reduceCtorEq,IC.loop.injEq] at hc
  rename_i keep ia
  obtain ⟨_,rfl⟩:=hc
  exact wp_loop_rounds (k + 1) (lp C hP hL p keep ia hp e h x e' h' hev A n0 S a hSL hE H hG Q hQ)
def primExt : Prim→Array Value→Sem Value
 | .b64 => Extern.MathFloatBits.float64bits
 | .of64 => Extern.MathFloatBits.float64frombits
 | .b32 => Extern.MathFloatBits.float32bits
 | .of32 => Extern.MathFloatBits.float32frombits
 | .sqrt => Extern.MathSqrt.sqrt
 | .ald => Extern.Atomic.loadT (.int .u64)
 | .aadd => Extern.Atomic.update (Op.intArith .add) .u64 true
def FnB (P : Program) (L : Nat→Option FuncId) (T : Tbl) (f : Nat) (g : FuncId) : Prop:=∃ (C : CC) (fn : Func) (c : Code) (fi : IFn),C.P = P∧Link C L∧P.funcs[g]? = some fn∧C.N≤fn.ntmps∧fn.body = some c∧T f = some fi∧compC C c = some (erase fi.body)∧mapO (compRes P) fn.results.toList = some fi.res
def FnP (P : Program) (T : Tbl) (f : Nat) (g : FuncId) : Prop:=∃ (fn : Func) (p : Prim),P.funcs[g]? = some fn∧(fn.name == "runtime.NumGoroutine") = false∧fn.body.isNone = true∧Extern.findNext fn = none∧Extern.find fn = some (primExt p)∧T f = some (primFn p)
structure ProgOK (P : Program) (L : Nat→Option FuncId) (T : Tbl) : Prop where
 fn : ∀ f g,L f = some g→FnB P L T f g∨FnP P T f g
theorem ZiK {args : List AV} {v : AV} (h : numE 0 args = [(0,v)]) : args = [v]:=by
 match args,h with
 | [x],h => simp [numE] at h; rw [h]
theorem ZzW {args : List AV} {v x : AV} (h : numE 0 args = [(0,v),(1,x)]) : args = [v,x]:=by
 match args,h with
 | [y,z],h => simp [numE] at h; rw [h.1,h.2]
theorem Zom {S : Sc} {v : AV} {us : List Value} (h : RelL S [v] us) : ∃ u,us = [u]∧Rel S v u:=by
 simp only [RelL] at h
 obtain ⟨u,r,rfl,h1,rfl⟩:=h
 exact ⟨u,rfl,h1⟩
theorem ZGn {S : Sc} {v x : AV} {us : List Value} (h : RelL S [v,x] us) : ∃ u y,us = [u,y]∧Rel S v u∧Rel S x y:=by
 simp only [RelL] at h
 obtain ⟨u,r,rfl,h1,y,r',rfl,h2,rfl⟩:=h
 exact ⟨u,y,rfl,h1,h2⟩
theorem ZxX {f g : Nat} (hF : FnP P T f g) {p : Prim} (hT : T f = some (primFn p)) {args : List AV} {h h' : Heap} {v : AV} (hev : evPrim p (numE 0 args) h = some (v,h')) {A : Nat→Prop} {n0 : Nat} {S : Sc} {us : List Value} (H : HR A n0 S h.mem h.fz) (hu : RelL S args us) :
  ∃ u w',(callFunc g us.toArray).run P S.w = .ok (.value u) w'∧Res A n0 S v h'.mem h'.fz u w':=by
 obtain ⟨fn,q,hfn,hname,hb,hn,he,hq⟩:=hF
 rw [hT] at hq
 have hpq : p = q:=by simpa [primFn] using hq
 subst hpq
 have pure_ : ∀ (u : Value) (w' : World),(primExt p us.toArray).run P S.w = .ok u w'→(w' = S.w∨w' = S.w.drew)→Rel S v u→h' = h→∃ u w',(callFunc g us.toArray).run P S.w = .ok (.value u) w'∧Res A n0 S v h'.mem h'.fz u w':=by
  intro u w' h1 h2 h3 h4
  subst h4
  refine ⟨u,w',by rw [run_callFunc_extern hfn hname hb hn he,h1]; rfl,?_⟩
  rcases h2 with rfl | rfl
  ·exact ⟨S,rfl,.refl H,h3⟩
  ·have d:=Ok.drew H
   exact ⟨S.at S.w.drew,rfl,d,h3.mono d.le⟩
 unfold evPrim at hev
 split at hev
 ·next b hE =>
  have ha:=ZiK hE; subst ha
  obtain ⟨u,rfl,hr⟩:=Zom hu
  simp only [Option.some.injEq,Prod.mk.injEq] at hev; obtain ⟨rfl,rfl⟩:=hev
  simp only [Rel] at hr; subst hr
  exact pure_ (.int .u64 (b : Int)) S.w rfl (.inl rfl) (by simp [Rel]) rfl
 ·next n hE =>
  have ha:=ZiK hE; subst ha
  obtain ⟨u,rfl,hr⟩:=Zom hu
  simp only [Option.some.injEq,Prod.mk.injEq] at hev; obtain ⟨rfl,rfl⟩:=hev
  simp only [Rel] at hr; subst hr
  exact pure_ (.float .f64 n.toNat) S.w rfl (.inl rfl) (by simp [Rel]) rfl
 ·next b hE =>
  have ha:=ZiK hE; subst ha
  obtain ⟨u,rfl,hr⟩:=Zom hu
  simp only [Option.some.injEq,Prod.mk.injEq] at hev; obtain ⟨rfl,rfl⟩:=hev
  simp only [Rel] at hr; subst hr
  exact pure_ (.int .u32 (b : Int)) S.w rfl (.inl rfl) (by simp [Rel]) rfl
 ·next n hE =>
  have ha:=ZiK hE; subst ha
  obtain ⟨u,rfl,hr⟩:=Zom hu
  simp only [Option.some.injEq,Prod.mk.injEq] at hev; obtain ⟨rfl,rfl⟩:=hev
  simp only [Rel] at hr; subst hr
  exact pure_ (.float .f32 n.toNat) S.w rfl (.inl rfl) (by simp [Rel]) rfl
 ·next x hE =>
  have ha:=ZiK hE; subst ha
  obtain ⟨u,rfl,hr⟩:=Zom hu
  simp only [Option.some.injEq,Prod.mk.injEq] at hev; obtain ⟨rfl,rfl⟩:=hev
  simp only [Rel] at hr; subst hr
  obtain ⟨u,w',h1,h2,h3⟩:=Zhu (P:=P) S .f64 x x (FloatKind.f64.format.sqrt x) S.w
  refine pure_ u w' ?_ h2 h3 rfl
  rw [← h1]
  show Sem.run P (match FloatKind.f64.format.sqrt x with | some r => pure (Value.float .f64 r) | none => do pure (Value.float .f64 (← choose (.nanBits .f64 x x))) : Sem Value) S.w = _
  cases FloatKind.f64.format.sqrt x <;> rfl
 ·next hE =>
  have ha:=ZiK hE; subst ha
  obtain ⟨u,rfl,hr⟩:=Zom hu
  simp only [Option.some.injEq,Prod.mk.injEq] at hev; obtain ⟨rfl,rfl⟩:=hev
  simp only [Rel] at hr
  obtain ⟨x,rfl,hx⟩:=hr
  have hs : FloatKind.f64.format.sqrt x = none:=by
   unfold Ieee.Format.sqrt
   generalize FloatKind.f64.format.read x = y at *
   cases y <;> first | (simp [Ieee.Datum.isNaN] at hx; done) | rfl
  obtain ⟨u,w',h1,h2,h3⟩:=Zhu (P:=P) S .f64 x x none S.w
  refine pure_ u w' ?_ h2 h3 rfl
  rw [← h1]
  show Sem.run P (match FloatKind.f64.format.sqrt x with | some r => pure (Value.float .f64 r) | none => do pure (Value.float .f64 (← choose (.nanBits .f64 x x))) : Sem Value) S.w = _
  rw [hs]
 ·next b off hE =>
  have ha:=ZiK hE; subst ha
  obtain ⟨u,rfl,hr⟩:=Zom hu
  split at hev
  ·next n hrd =>
   simp only [Option.some.injEq,Prod.mk.injEq] at hev; obtain ⟨rfl,rfl⟩:=hev
   obtain ⟨i,hi,rfl⟩:=ZoY hr
   have hat:=(H.read (fun _ _ q => q) hrd hi).1
   simp only [RelAt] at hat
   obtain ⟨⟨u,hc,_,hv⟩,_⟩:=hat
   simp only [Rel] at hv; subst hv
   exact ⟨_,_,run_call_load hfn hname hb hn .u64 he hc,S,rfl,.refl H,by simp [Rel]⟩
  ·cases hev
 ·next b off d hE =>
  have ha:=ZzW hE; subst ha
  obtain ⟨u,y,rfl,hr,hy⟩:=ZGn hu
  split at hev
  ·next n hrd =>
   simp only [Option.map_eq_some_iff] at hev
   obtain ⟨h2,hw,hev⟩:=hev
   simp only [Prod.mk.injEq] at hev; obtain ⟨rfl,rfl⟩:=hev
   obtain ⟨i,hi,rfl⟩:=ZoY hr
   simp only [Rel] at hy; subst hy
   have hat:=(H.read (fun _ _ q => q) hrd hi).1
   simp only [RelAt] at hat
   obtain ⟨⟨u,hc,_,hv⟩,_⟩:=hat
   simp only [Rel] at hv; subst hv
   obtain ⟨w',hrun,ok⟩:=Ok.store (P:=P) H hw hi (us:=[.int .u64 (IntKind.u64.wrap (n + d))]) (by simp [RelL,Rel]) (by simp [Value.oneCell'])
   have hst : (store ⟨i.r,i.base + off,none⟩ (.int .u64 (IntKind.u64.wrap (n + d)))).run P S.w = .ok () w':=by
    simp only [storeCells,Zdh,Nat.add_zero,Sem.run_bind] at hrun
    cases hq : (store ⟨i.r,i.base + off,none⟩ (.int .u64 (IntKind.u64.wrap (n + d)))).run P S.w with
    | ok x w2 =>
     rw [hq] at hrun
     simp at hrun
     subst hrun; rfl
    | halt x w2 => rw [hq] at hrun; simp at hrun
   rw [run_store P S.w _ _ _ rfl,hc] at hst
   simp only at hst
   split at hst
   ·cases hst
   ·next hz =>
    have hz : S.w.frozen? ⟨i.r,i.base + off,none⟩ = false:=by simpa using hz
    simp only [Result.ok.injEq,true_and] at hst
    subst hst
    exact ⟨_,_,run_call_add hfn hname hb hn .u64 he hc hz (s:=IntKind.u64.wrap (n + d)) (by simp [Op.intArith]),_,rfl,ok,by simp [Rel]⟩
  ·cases hev
 ·cases hev
theorem ZtY : ∀ (vs : List AV) (n t : Nat),getE (numE n vs) t = if n≤t then vs.getD (t - n) .undef else .undef
 | [],n,t => by simp [numE,getE]
 | v :: vs,n,t => by
  simp only [numE,getE]
  by_cases h : t = n
  ·subst h; simp
  ·rw [if_neg h,ZtY vs (n + 1) t]
   by_cases h2 : n + 1≤t
   ·rw [if_pos h2,if_pos (by omega),show t - n = (t - (n + 1)) + 1 by omega]; simp
   ·rw [if_neg h2,if_neg (by omega)]
theorem ZwQ {S : Sc} {vs : List AV} {us : List Value} (h : RelL S vs us) {N : Nat} : EnvR S N (numE 0 vs) { tmps:=us.toArray ++ Array.replicate (N - us.toArray.size) undef,defers:=[] }:=by
 refine ⟨by simp; omega,fun t => ?_⟩
 rw [ZtY]
 simp only [Nat.zero_le,if_true,Nat.sub_zero]
 by_cases ht : t < vs.length
 ·have hv : vs[t]? = some vs[t]:=List.getElem?_eq_getElem ht
  obtain ⟨u,hu,hr⟩:=ZfR h t _ hv
  rw [List.getD_eq_getElem?_getD,hv,Array.getD_eq_getD_getElem?,Array.getElem?_append_left (by simpa using (List.getElem?_eq_some_iff.1 hu).1)]
  simp only [List.getElem?_toArray,hu,Option.getD_some]
  exact hr
 ·rw [List.getD_eq_getElem?_getD,List.getElem?_eq_none (by omega)]
  simp [Rel]
theorem ZzX {P : Program} {S : Sc} {hp : Mem} {fz : Nat→Prop} {A : Nat→Prop} {n0 : Nat} (H : HR A n0 S hp fz) {G : Nat→Option (List AV)} (hG : Gok G S) {N : Nat} {e : Env} {a : Act} (hE : EnvR S N e a) {h : Heap} (hh : hp = h.mem) {rv : ResultVar} {ir : IRes} (hc : compRes P rv = some ir) {v : AV} (hv : resOf G e h ir = some v) :
  ∃ u,(match rv with | .tmp t => pure (a.tmps.getD t undef) | .cell ad t => do loadVar t (← asAddr (a.tmps.getD ad undef)) : Sem Value).run P S.w = .ok u S.w∧Rel S v u:=by
 subst hh
 cases rv with
 | tmp t =>
  simp only [compRes,Option.some.injEq] at hc; subst hc
  simp only [resOf,Option.some.injEq] at hv; subst hv
  exact ⟨_,rfl,hE.get t⟩
 | cell t ty =>
  simp only [compRes] at hc
  split at hc
  ·next g i hg hi =>
   split at hc
   ·next h1 =>
    cases hc
    simp only [resOf] at hv
    split at hv
    ·next b off hb =>
     split at hv
     ·next cs hcs =>
      have hr:=hE.get t
      rw [hb] at hr
      obtain ⟨r,o,hu,hat,hl⟩:=Zuj H (fun _ _ q => q) hG hcs hr
      obtain ⟨u,hrun,hv'⟩:=ZmI hg hi h1 hat hl hv
      refine ⟨u,?_,hv'⟩
      simp [hu,asAddr,hrun]
     ·cases hv
    ·cases hv
   ·cases hc
  ·cases hc
theorem Zvy {P : Program} {S : Sc} {A : Nat→Prop} {n0 : Nat} {h : Heap} (H : HR A n0 S h.mem h.fz) {G : Nat→Option (List AV)} (hG : Gok G S) {N : Nat} {e : Env} {a : Act} (hE : EnvR S N e a) {fn : Func} {rs : List IRes} (hc : mapO (compRes P) fn.results.toList = some rs) {vs : List AV} (hv : resL G e h rs = some vs) :
  ∃ u,(results fn a.tmps).run P S.w = .ok u S.w∧Rel S (pack vs) u:=by
 have key : ∀ (rvs : List ResultVar) (rs : List IRes) (vs : List AV),mapO (compRes P) rvs = some rs→resL G e h rs = some vs →
   ∃ us,(rvs.mapM fun | .tmp t => pure (a.tmps.getD t undef) | .cell ad t => do loadVar t (← asAddr (a.tmps.getD ad undef)) : Sem (List Value)).run P S.w = .ok us S.w∧RelL S vs us:=by
  intro rvs
  induction rvs with
  | nil => intro rs vs h1 h2; simp [mapO] at h1; subst h1; simp [resL] at h2; subst h2; exact ⟨[],by simp,by simp [RelL]⟩
  | cons rv rvs ih =>
   intro rs vs h1 h2
   simp only [mapO] at h1
   split at h1
   ·next ir irs h3 h4 =>
    cases h1
    simp only [resL] at h2
    split at h2
    ·next v vs' h5 h6 =>
     cases h2
     obtain ⟨us,hu,hr⟩:=ih irs vs' h4 h6
     obtain ⟨u,hu1,hr1⟩:=ZzX (P:=P) H hG hE rfl h3 h5
     refine ⟨u :: us,?_,by simp only [RelL]; exact ⟨u,us,rfl,hr1,hr⟩⟩
     simp only [List.mapM_cons,Sem.run_bind,hu1,Result.andThen_ok,hu,Sem.run_pure]
    ·cases h2
   ·cases h1
 obtain ⟨us,hu,hr⟩:=key fn.results.toList rs vs hc hv
 have hl:=ZaB hr
 unfold results
 rw [Array.mapM_eq_mapM_toList]
 rw [Sem.run_bind,Sem.run_map]
 erw [hu]
 refine ⟨_,rfl,?_⟩
 show Rel S (pack vs) (if h : us.toArray.size = 1 then us.toArray[0] else .tuple us.toArray)
 by_cases h1 : us.toArray.size = 1
 ·rw [dif_pos h1]
  obtain ⟨u,rfl⟩ : ∃ u,us = [u]:=List.length_eq_one_iff.1 (by simpa using h1)
  obtain ⟨v,rfl⟩ : ∃ v,vs = [v]:=List.length_eq_one_iff.1 (by simpa using hl.symm)
  simp only [RelL] at hr
  obtain ⟨u',r,he,h2,_⟩:=hr
  cases he
  exact h2
 ·rw [dif_neg h1]
  have hp : pack vs = .tup vs:=by
   unfold pack
   split
   ·next v => exfalso; simp at hl h1; omega
   ·rfl
  rw [hp]
  simp only [Rel]
  exact ⟨us.toArray,rfl,by simpa using hr⟩
theorem ZoP (hP : ProgOK P L T) {k : Nat} (ih : CodeOK P L G (ev G T k)) : CallsOK P L G (callB G T (ev G T k)):=by
 have main : ∀ (inl : Bool) (f : Nat) (g : FuncId) (args : List AV) (h : Heap) (r : AV) (h' : Heap),L f = some g→callB G T (ev G T k) inl f args h = some (r,h')→∀ (A : Nat→Prop) (n0 : Nat) (S : Sc) (us : List Value),S.L = L→HR A n0 S h.mem h.fz →
   Gok G S→RelL S args us→∃ (vs : List AV) (h1 : Heap),(if inl then r = pack vs∧h' = h1 else snap h1.mem (pack vs) = some r)∧Goes P g us.toArray S.w fun u w' => Res A n0 S (pack vs) h1.mem h1.fz u w':=by
  intro inl f g args h r h' hLf hcall A n0 S us hSL H hG hu
  rcases hP.fn f g hLf with hFn | hFn
  case inr =>
   obtain ⟨fn,p,hfn,hname,hb,hn,he,hT⟩:=hFn
   have hgo:=fun {v h1} => ZxX (h':=h1) (v:=v) ⟨fn,p,hfn,hname,hb,hn,he,hT⟩ hT (args:=args) (h:=h) (A:=A) (n0:=n0) (S:=S) (us:=us)
   rw [Zex,hT,Option.bind_some] at hcall
   cases k with
   | zero => cases hcall
   | succ k =>
    have hev : ev G T (k + 1) (primFn p).body (numE 0 args) h = (evPrim p (numE 0 args) h).map fun r => (Ex.norm,putE (some 9) r.1 (numE 0 args),r.2):=rfl
    rw [hev] at hcall
    cases hp : evPrim p (numE 0 args) h with
    | none => rw [hp] at hcall; cases hcall
    | some q =>
     obtain ⟨v,h1⟩:=q
     rw [hp,Option.map_some,Option.bind_some] at hcall
     refine ⟨[v],h1,?_,.inr (hgo hp H hu)⟩
     simp only [callEnd,primFn,resL,resOf,putE,getE,if_true,Option.bind_some,pack] at hcall
     cases inl
     ·simp only [Bool.false_eq_true,if_false,Option.map_eq_some_iff] at hcall ⊢
      obtain ⟨q,hq,he⟩:=hcall
      cases he; exact hq
     ·simp only [if_true,Option.some.injEq,Prod.mk.injEq] at hcall ⊢
      exact ⟨hcall.1.symm,hcall.2.symm⟩
  obtain ⟨C,fn,c,fi,hCP,hLC,hfn,hN,hbody,hT,hcomp,hres⟩:=hFn
  rw [Zex,hT,Option.bind_some] at hcall
  cases hb : ev G T k fi.body (numE 0 args) h with
  | none => rw [hb] at hcall; cases hcall
  | some q =>
   obtain ⟨x,e1,h1⟩:=q
   rw [hb,Option.bind_some] at hcall
   have hx : ∃ vs,resL G e1 h1 fi.res = some vs∧(if inl then some (pack vs,h1) else (snap h1.mem (pack vs)).map fun r => (r,Heap.nil)) = some (r,h')∧(x = .norm∨x = .ret):=by
    cases x <;> simp only [callEnd,reduceCtorEq] at hcall
    ·cases hr : resL G e1 h1 fi.res with
     | none => rw [hr] at hcall; cases hcall
     | some vs => rw [hr,Option.bind_some] at hcall; exact ⟨vs,rfl,hcall,.inl rfl⟩
    ·cases hr : resL G e1 h1 fi.res with
     | none => rw [hr] at hcall; cases hcall
     | some vs => rw [hr,Option.bind_some] at hcall; exact ⟨vs,rfl,hcall,.inr rfl⟩
   obtain ⟨vs,hvs,hend,hx⟩:=hx
   refine ⟨vs,h1,?_,?_⟩
   ·cases inl
    ·simp only [Bool.false_eq_true,if_false,Option.map_eq_some_iff] at hend ⊢
     obtain ⟨q,hq,he⟩:=hend
     cases he; exact hq
    ·simp only [if_true,Option.some.injEq,Prod.mk.injEq] at hend ⊢
     exact ⟨hend.1.symm,hend.2.symm⟩
   ·have hE:=ZwQ hu (N:=fn.ntmps)
    have hE' : EnvR S C.N (numE 0 args) { tmps:=us.toArray ++ Array.replicate (fn.ntmps - us.toArray.size) undef,defers:=[] }:=⟨Nat.le_trans hN hE.size,hE.get⟩
    refine .inl ⟨fn,hfn,(hLC.fn f g hLf).elim fun fn' hf' => by rw [hCP,hfn] at hf'; cases hf'.1; exact hf'.2,by rw [hbody]; rfl,?_⟩
    refine calls_of_wp hfn hbody (ih C hCP hLC c fi.body hcomp _ h x e1 h1 hb A n0 S _ hSL hE' H hG _ ?_)
    intro a1 S1 ok1 hE1 hd1
    obtain ⟨u,hu1,hu2⟩:=Zvy (P:=P) ok1.hr (hG.mono ok1.le) hE1 hres hvs
    rcases hx with rfl | rfl
    ·exact ⟨hd1,u,hu1,u,rfl,S1,rfl,ok1,hu2⟩
    ·exact ⟨hd1,u,hu1,u,rfl,S1,rfl,ok1,hu2⟩
 refine ⟨?_,?_⟩
 ·intro f g args r h' hLf hcall w A us hA hG hu
  have H0 : HR A w.heap.size ⟨L,w,A,noι⟩ Heap.nil.mem Heap.nil.fz :=
   ⟨fun b k i hb => by simp [Heap.nil,Heap.mem] at hb,fun b i hi => by simp [noι] at hi,fun b b' k k' i i' hb => by simp [Heap.nil,Heap.mem] at hb,
    fun r hr => ⟨hA r hr,fun _ => hr,fun b k i hb => by simp [Heap.nil,Heap.mem] at hb⟩,Nat.le_refl _⟩
  obtain ⟨vs,h1,hsn,hc⟩:=main false f g args .nil r h' hLf hcall A w.heap.size ⟨L,w,A,noι⟩ us rfl H0 hG hu
  simp only [Bool.false_eq_true,if_false] at hsn
  refine hc.mono ?_
  rintro u w' ⟨S',rfl,ok,hr⟩
  have hsh : Shut S' ⟨L,S'.w,fun r => A r∨w.heap.size≤r∧r < S'.w.heap.size,noι⟩:=⟨ok.le.L.symm,rfl,rfl,fun r hr => by
   obtain ⟨x,y,_⟩:=ok.hr.ro r hr
   rcases Nat.lt_or_ge r w.heap.size with q | q
   ·exact .inl (y q)
   ·exact .inr ⟨q,x⟩⟩
  refine ⟨ok.below,?_⟩
  refine Zoy hsh (Zoz ok.hr (fun _ _ q => q) hsh 3) (pack vs) r u hsn ?_ hr
  intro b _ i hi ⟨k,hk,_⟩
  have B:=ok.hr.blk b k i hk hi
  obtain ⟨_,_,hrow,_⟩:=B.row
  exact .inr ⟨B.low,ZkA hrow⟩
 ·intro f g args h r h' hLf hcall A n0 S us hSL H hG hu
  obtain ⟨vs,h1,hsn,hc⟩:=main true f g args h r h' hLf hcall A n0 S us hSL H hG hu
  simp only [if_true] at hsn
  obtain ⟨rfl,rfl⟩:=hsn
  exact hc
theorem ZsR (hm : P.follows .mixedOrders = true) (hP : ProgOK P L T) : ∀ k,CodeOK P L G (ev G T k)∧LoopOK P L G (ev G T k) k
 | 0 => by
  constructor
  ·intro C _ _ c ic _ e h x e' h' hev; cases hev
  ·intro C _ _ c keep ic _ e h x e' h' hev; cases hev
 | k + 1 => ZwI hm (ZoP hP (ZsR hm hP k).1) (ZsR hm hP k).1 (ZsR hm hP k).2
theorem Zyq (hm : P.follows .mixedOrders = true) (hP : ProgOK P L T) {f : Nat} {g : FuncId} {args : List AV} {t : Bool} (hLf : L f = some g) (hr : run G T f args = some (.bool t))
  (w : World) (A : Nat→Prop) (hA : ∀ r,A r→r < w.heap.size) (hG : Gok G ⟨L,w,A,noι⟩) {us : List Value} (hu : RelL ⟨L,w,A,noι⟩ args us) :
  Calls P g us.toArray w fun e w' => ∃ u,e = .returned u∧Go.RowKit.Below w.heap.size w w'∧Rel ⟨L,w',fun r => A r∨w.heap.size≤r∧r < w'.heap.size,noι⟩ (.bool t) u:=by
 unfold run at hr
 rw [Option.map_eq_some_iff] at hr
 obtain ⟨⟨r',h'⟩,hc,hb⟩:=hr
 simp only at hb
 subst hb
 obtain ⟨k,hk⟩:=((ZvJ G T false f args .nil).sup _).1 hc
 rcases (ZoP hP (ZsR hm hP k).1).shut f g args _ h' hLf hk w A us hA hG hu with ⟨_,_,_,_,h4⟩ | ⟨u,w',h1,h2,h3⟩
 ·exact h4
 ·exfalso
  rcases hP.fn f g hLf with hFn | hFn
  ·obtain ⟨C,fn,c,fi,hCP,hLC,hfn,hN,hbody,hT,hcomp,hres⟩:=hFn
   have hname:=(hLC.fn f g hLf).elim fun fn' hf' => (show fn.name ≠ "runtime.NumGoroutine" by rw [hCP,hfn] at hf'; cases hf'.1; exact hf'.2)
   have hbn : fn.body≠none:=by rw [hbody]; simp
   have hbi : fn.body.isNone = false:=by rw [hbody]; rfl
   simp [callFunc,hfn,hname,hbn] at h1
  ·obtain ⟨fn,p,hfn,hname,hb,hn,he,hT⟩:=hFn
   have hk : callB G T (ev G T k) false f args .nil = some (.bool t,h'):=hk
   rw [Zex,hT,Option.bind_some] at hk
   cases k with
   | zero => cases hk
   | succ k =>
    have hev : ev G T (k + 1) (primFn p).body (numE 0 args) .nil = (evPrim p (numE 0 args) .nil).map fun r => (Ex.norm,putE (some 9) r.1 (numE 0 args),r.2):=rfl
    rw [hev] at hk
    cases hp : evPrim p (numE 0 args) .nil with
    | none => rw [hp] at hk; cases hk
    | some q =>
     obtain ⟨v,h1'⟩:=q
     rw [hp,Option.map_some,Option.bind_some] at hk
     simp only [callEnd,primFn,resL,resOf,putE,getE,if_true,Option.bind_some,pack,Bool.false_eq_true,if_false,Option.map_eq_some_iff,Prod.mk.injEq] at hk
     obtain ⟨q,hq,rfl,_⟩:=hk
     have hv : (∃ k n,v = .int k n)∨(∃ k n,v = .fl k n)∨∃ k,v = .nan k:=by
      unfold evPrim at hp
      (repeat' split at hp) <;> first
       | (cases hp; done)
       | (cases hp; exact .inl ⟨_,_,rfl⟩)
       | (cases hp; exact .inr (.inl ⟨_,_,rfl⟩))
       | (cases hp; exact .inr (.inr ⟨_,rfl⟩))
       | (cases hp; unfold flR; split <;> first | exact .inr (.inl ⟨_,_,rfl⟩) | exact .inr (.inr ⟨_,rfl⟩))
       | (simp only [Option.map_eq_some_iff,Prod.mk.injEq] at hp; obtain ⟨_,_,rfl,_⟩:=hp; exact .inl ⟨_,_,rfl⟩)
     rcases hv with ⟨_,_,rfl⟩ | ⟨_,_,rfl⟩ | ⟨_,rfl⟩ <;> simp [snap,snapA] at hq
end
end Go.Cv
