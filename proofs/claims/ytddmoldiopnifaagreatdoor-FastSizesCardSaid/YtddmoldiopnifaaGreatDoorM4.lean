/-
 A part of the proof of the statements of this seat (texts that the law's own text leans on): no condition.
-/
import Derived.Test.YtddmoldiopnifaaGreatDoorM3
set_option linter.unusedVariables false
set_option linter.unusedSimpArgs false
namespace Go.Cv
theorem Zey {G : Nat→Option (List AV)} {F : CallF} {e : Env} {h h' : Heap} {o : IOp} {v : AV} (hw : isW o = false) (hev : evOp G F e h o = some (v,h')) :
  ∃ δ fr,evQ G F e h.mem h.b.length o = some (v,δ,fr)∧h'.b = h.b ++ δ∧h'.f = fr ++ h.f:=by
 unfold evOp at hev
 rw [if_neg (by simp [hw]),Option.map_eq_some_iff] at hev
 obtain ⟨⟨v',δ,fr⟩,hq,he⟩:=hev
 simp only [Prod.mk.injEq] at he
 obtain ⟨rfl,rfl⟩:=he
 exact ⟨δ,fr,hq,rfl,rfl⟩
theorem Zmk {G : Nat→Option (List AV)} {F : CallF} {e : Env} {h h' : Heap} {o : IOp} {v : AV} (hw : isW o = true) (hev : evOp G F e h o = some (v,h')) : evW G F e h o = some (v,h'):=by
 unfold evOp at hev
 rwa [if_pos hw] at hev
theorem ZhS {G : Nat→Option (List AV)} {F : CallF} {l : List IOper} {E : Nat→Env} {M : Nat→Heap} {V : Nat→AV} (hs : Seq G F l E M V) {i : Nat} :
  ∀ {k : Nat},i≤k→k≤l.length→(∀ j io,i≤j→j < k→l[j]? = some io→isW io.op = false)→(∃ t,(M k).b = (M i).b ++ t)∧∀ b ∈ (M i).f,b ∈ (M k).f:=by
 intro k hik
 induction hik with
 | refl => intro _ _; exact ⟨⟨[],by simp⟩,fun _ h => h⟩
 | @step k hik ih =>
  intro hk h
  obtain ⟨⟨t,ht⟩,hf⟩:=ih (by omega) fun j io a b => h j io a (by omega)
  have hio : l[k]? = some l[k]:=List.getElem?_eq_getElem (by omega)
  rcases hs.doing k _ hio with ⟨_,hop⟩ | ⟨_,_,hm⟩
  ·obtain ⟨δ,fr,_,h1,h2⟩:=Zey (h k _ hik (by omega) hio) hop
   refine ⟨⟨t ++ δ,by rw [h1,ht]; simp⟩,fun b hb => by rw [h2]; exact List.mem_append_right _ (hf b hb)⟩
  ·rw [hm]; exact ⟨⟨t,ht⟩,hf⟩
theorem Zrw {G : Nat→Option (List AV)} {F : CallF} {l : List IOper} {E : Nat→Env} {M : Nat→Heap} {V : Nat→AV} (hs : Seq G F l E M V) {i : Nat} :
  ∀ {k : Nat},i≤k→k≤l.length→(∀ j io,i≤j→j < k→l[j]? = some io→sens io.op = false)→M k = M i:=by
 intro k hik
 induction hik with
 | refl => intro _ _; rfl
 | @step k hik ih =>
  intro hk h
  have ih':=ih (by omega) fun j io a b => h j io a (by omega)
  have hio : l[k]? = some l[k]:=List.getElem?_eq_getElem (by omega)
  have hsn:=h k _ hik (by omega) hio
  have hw : isW l[k].op = false:=by
   generalize l[k].op = o at hsn
   cases o <;> first | rfl | (simp [sens] at hsn; done)
  rcases hs.doing k _ hio with ⟨_,hop⟩ | ⟨_,_,hm⟩
  ·obtain ⟨δ,fr,hq,h1,h2⟩:=Zey hw hop
   obtain ⟨rfl,rfl⟩:=Zha hsn hq
   rw [← ih']
   cases hM : M (k + 1) with
   | mk b f =>
    rw [hM] at h1 h2
    cases hM' : M k with
    | mk b' f' =>
     rw [hM'] at h1 h2
     simp at h1 h2
     rw [h1,h2]
  ·rw [hm,ih']
section
variable {C : CC} {A : Nat→Prop} {n0 : Nat} {G : Nat→Option (List AV)} {F : CallF} {ops : Array Oper} {l : List IOper}
def Lone (E : Nat→Env) (i j : Nat) (x y : IOper) : Prop :=
 ∃ dx g n ax gx dy m ay vy gy,x = ⟨dx,.load g n ax,gx⟩∧y = ⟨dy,.store m ay vy,gy⟩∧apart (opd (E i) ax) (opd (E j) ay) = true
structure Free (ops : Array Oper) (l : List IOper) (E : Nat→Env) : Prop where
 back : ∀ i o,ops[i]? = some o→∀ e ∈ o.after,Region.binds .any e = true→e.on < i
 pair : ∀ i j x y,i < j→l[i]? = some x→l[j]? = some y→(((Region.before ops).getD j 0).testBit i = true∨(indT x y = true∧(indM x y = true∨Lone E i j x y)))∧¬ (isW x.op = true∧sens y.op = true∧isW y.op = false)
theorem Zpe {G : Nat→Option (List AV)} {F : CallF} {l : List IOper} {E : Nat→Env} {M : Nat→Heap} {V : Nat→AV} (hs : Seq G F l E M V) {i : Nat} {a : IOpd} :
  ∀ {k : Nat},i≤k→k≤l.length→(∀ m z,i≤m→m < k→l[m]? = some z→∀ t ∈ opdT a,z.dst≠some t)→opd (E k) a = opd (E i) a:=by
 intro k hik
 induction hik with
 | refl => intro _ _; rfl
 | @step k hik ih =>
  intro hk h
  have hio : l[k]? = some l[k]:=List.getElem?_eq_getElem (by omega)
  rw [← ih (by omega) fun m z a b => h m z a (by omega)]
  refine ZaR fun t ht => ?_
  rw [hs.env k _ hio,ZbF,if_neg (h k _ hik (by omega) hio t ht)]
theorem ZCP {e : Env} {ops : List IOper} {chk : List (Nat × Nat)} (h : chkOk e ops chk = true) {i j : Nat} (hm : (i,j) ∈ chk) :
  (match ops[i]?,ops[j]? with | some ⟨_,.load _ _ a,_⟩,some ⟨_,.store _ b _,_⟩ => apart (opd e a) (opd e b) | _,_ => false) = true:=by
 induction chk with
 | nil => cases hm
 | cons p r ih =>
  obtain ⟨i',j'⟩:=p
  simp only [chkOk,Bool.and_eq_true] at h
  rcases List.mem_cons.1 hm with he | hm
  ·cases he; exact h.1
  ·exact ih h.2 hm
theorem ZDe {chk : List (Nat × Nat)} (h : drawOk ops l chk = true) {E : Nat→Env} {M : Nat→Heap} {V : Nat→AV} (hs : Seq G F l E M V) (hchk : chkOk (E l.length) l chk = true) : Free ops l E:=by
 unfold drawOk at h
 simp only [Bool.and_eq_true,List.all_eq_true,List.mem_range] at h
 obtain ⟨h1,h2⟩:=h
 refine ⟨fun i o ho e he hb => ?_,fun i j x y hij hx hy => ?_⟩
 ·have hlt : i < ops.size:=by
   rcases Nat.lt_or_ge i ops.size with q | q
   ·exact q
   ·simp [Array.getElem?_eq_none q] at ho
  have:=h1 i hlt
  rw [ho] at this
  have:=List.all_eq_true.1 this e (by simpa using he)
  simpa [hb] using this
 ·have hlt : j < l.length:=(List.getElem?_eq_some_iff.1 hy).1
  have:=h2 j hlt i hij
  rw [hx,hy] at this
  simp only [Bool.and_eq_true,Bool.or_eq_true,Bool.not_eq_true',Bool.and_eq_false_iff,Bool.not_eq_false'] at this
  refine ⟨?_,fun ⟨a,b,c⟩ => ?_⟩
  ·rcases this.1 with q | ⟨q1,q2 | ⟨q2,q3⟩⟩
   ·exact .inl q
   ·exact .inr ⟨q1,.inl q2⟩
   ·refine .inr ⟨q1,.inr ?_⟩
    have hm : (i,j) ∈ chk:=by simpa using q2
    have hc:=ZCP hchk hm
    rw [hx,hy] at hc
    unfold loneS at q3
    rw [hx,hy] at q3
    split at q3
    ·next dx g n ax gx dy m ay vy gy h3 h4 =>
     cases h3; cases h4
     simp only at hc
     have hall:=List.all_eq_true.1 q3
     have ha : opd (E l.length) ax = opd (E i) ax:=Zpe hs (by omega) (Nat.le_refl _) fun m z him hml hz t ht => by
      have:=hall m (List.mem_range.2 hml)
      rw [hz] at this
      simp only [Bool.and_eq_true,Bool.or_eq_true,decide_eq_true_eq] at this
      have:=this.1.resolve_left (by omega)
      simpa using List.all_eq_true.1 this t ht
     have hb : opd (E l.length) ay = opd (E j) ay:=Zpe hs (by omega) (Nat.le_refl _) fun m z him hml hz t ht => by
      have:=hall m (List.mem_range.2 hml)
      rw [hz] at this
      simp only [Bool.and_eq_true,Bool.or_eq_true,decide_eq_true_eq] at this
      have:=this.2.resolve_left (by omega)
      simpa using List.all_eq_true.1 this t ht
     rw [ha,hb] at hc
     exact ⟨dx,g,n,ax,gx,dy,m,ay,vy,gy,rfl,rfl,hc⟩
    ·cases q3
  ·rcases this.2 with (q | q) | q
   ·rw [a] at q; cases q
   ·rw [b] at q; cases q
   ·rw [c] at q; cases q
theorem ZnK {x y : IOper} (h : indT x y = true) : (∀ d,x.dst = some d→d ∉ readsOf y∧y.dst≠some d)∧(∀ d,y.dst = some d→d ∉ readsOf x):=by
 unfold indT at h
 simp only [Bool.and_eq_true] at h
 obtain ⟨h1,h2⟩:=h
 refine ⟨fun d hd => ?_,fun d hd => ?_⟩
 ·rw [hd] at h1
  simpa using h1
 ·rw [hd] at h2
  simpa using h2
theorem ZnJ {x y : IOper} (h : indM x y = true) : ¬ (isW x.op = true∧sens y.op = true)∧¬ (sens x.op = true∧isW y.op = true):=by
 unfold indM at h
 simp only [Bool.and_eq_true,Bool.not_eq_true'] at h
 obtain ⟨h3,h4⟩:=h
 refine ⟨fun ⟨a,b⟩ => ?_,fun ⟨a,b⟩ => ?_⟩
 ·rw [a,b] at h3; cases h3
 ·rw [a,b] at h4; cases h4
theorem ZtR {G : Nat→Option (List AV)} {F : CallF} {e : Env} {h : Mem} {p : Nat} {g : Bool} {n : Nat} {ax : IOpd} {v : AV} {δ : List Blk} {fr : List Nat} (hq : evQ G F e h p (.load g n ax) = some (v,δ,fr)) : δ = []:=by
 simp only [evQ] at hq
 split at hq
 ·simp only [Option.map_eq_some_iff] at hq; obtain ⟨_,_,he⟩:=hq; cases he; rfl
 ·cases hq
theorem Zxy {G : Nat→Option (List AV)} {F : CallF} {e : Env} {h : Mem} {p : Nat} {g : Bool} {n : Nat} {ax : IOpd} {v : AV} {δ : List Blk} {fr : List Nat} (hq : evQ G F e h p (.load g n ax) = some (v,δ,fr)) : fr = []:=by
 simp only [evQ] at hq
 split at hq
 ·simp only [Option.map_eq_some_iff] at hq; obtain ⟨_,_,he⟩:=hq; cases he; rfl
 ·cases hq
theorem ZzQ {o : IOp} (h : isW o = true) : sens o = true:=by cases o <;> first | rfl | (rename_i inl f as; cases inl <;> rfl) | (simp [isW] at h; done)
structure Inv (C : CC) (A : Nat→Prop) (n0 : Nat) (ops : Array Oper) (l : List IOper) (E : Nat→Env) (M : Nat→Heap) (V : Nat→AV) (L : Nat→Option FuncId) (G : Nat→Option (List AV)) (ls : Nat→Bool) (S : Sc) (a : Act) (k : Nat) : Prop where
 closed : Closed ops ls
 L : S.L = L
 env : EnvR S C.N (selE l V ls (E 0) l.length) a
 le : k≤l.length
 hr : HR A n0 S (M k).mem (M k).fz
 wr : ∀ i io,l[i]? = some io→isW io.op = true→(ls i = true→i < k)∧(ls i = false→k≤i)
 qu : ∀ i io,l[i]? = some io→sens io.op = true→isW io.op = false→i < k
 ids : ∀ i io,l[i]? = some io→sens io.op = true→isW io.op = false→ls i = false→(M i).b.length < (M (i + 1)).b.length→S.ι (M i).b.length = none
 g : Gok G S
def ins (ls : Nat→Bool) (i : Nat) : Nat→Bool:=fun j => if j = i then true else ls j
theorem Zfm {ls : Nat→Bool} (hc : Closed ops ls) {i : Nat} (hr : ∀ o,ops[i]? = some o→∀ e ∈ o.after,Region.binds .any e = true→ls e.on = true) : Closed ops (ins ls i):=by
 intro j hj o ho e he hb
 unfold ins at hj ⊢
 split
 ·rfl
 ·split at hj
  ·next hji => subst hji; exact hr o ho e he hb
  ·exact hc j hj o ho e he hb
theorem ZzP (hl : mapO (compOper C ops) ops.toList = some l) {E : Nat→Env} (hfree : Free ops l E) {M : Nat→Heap} {V : Nat→AV} (hs : Seq G F l E M V) {L : Nat→Option FuncId} (hL : Link C L) (hF : CallsOK C.P L G F)
  {ls : Nat→Bool} {S : Sc} {a : Act} {k : Nat} (I : Inv C A n0 ops l E M V L G ls S a k) {i : Nat} (hi : i < l.length) (hun : ls i = false)
  (hrd : ∀ o,ops[i]? = some o→∀ e ∈ o.after,Region.binds .any e = true→ls e.on = true)
  {Q : Exit→Act→World→Prop} {K : Act→World→Prop}
  (hK : ∀ (S' : Sc) (u : Value) (k' : Nat),S.Le S'→Go.RowKit.Below n0 S.w S'.w→Inv C A n0 ops l E M V L G (ins ls i) S' (a.put ((ops[i]?).bind (·.dst)) u) k'→K (a.put ((ops[i]?).bind (·.dst)) u) S'.w) :
  wpOp C.P ops Q i K a S.w:=by
 have hio : l[i]? = some l[i]:=List.getElem?_eq_getElem hi
 generalize hx : l[i] = io at hio
 obtain ⟨o,ho,hc⟩:=Zkj hl i io hio
 rw [Array.getElem?_toList] at ho
 obtain ⟨c1,c2,c3,c4⟩:=ZfP hc
 have hdst : (ops[i]?).bind (·.dst) = o.dst:=by rw [ho]; rfl
 rw [hdst] at hK
 -- what stands ahead of it is done,what it stands ahead of isn't
 have ahead : ∀ j y,j < i→l[j]? = some y→ls j = true∨(indT y io = true∧(indM y io = true∨Lone E j i y io)):=fun j y hj hy => by
  rcases (hfree.pair j i y io hj hy hio).1 with q | q
  ·exact .inl (Zeo q I.closed hrd)
  ·exact .inr q
 have behind : ∀ j y,i < j→l[j]? = some y→ls j = false∨(indT io y = true∧(indM io y = true∨Lone E i j io y)):=fun j y hj hy => by
  cases hlj : ls j with
  | false => exact .inl rfl
  | true =>
   rcases (hfree.pair i j io y hj hio hy).1 with q | q
   ·have:=Zeo q I.closed (fun o' ho' e he hb => I.closed j hlj o' ho' e he hb)
    rw [hun] at this; cases this
   ·exact .inr q
 -- the slots that it looks at are as in the text's order
 have hreads : ∀ t ∈ readsOf io,getE (selE l V ls (E 0) l.length) t = getE (E i) t:=by
  intro t ht
  rw [Zur (k:=i) (by omega) ?_,Zqn hs (by omega) ?_]
  ·intro j hj y hy hd
   rcases ahead j y hj hy with q | ⟨q,_⟩
   ·exact q
   ·exact absurd ht ((ZnK q).1 t hd).1
  ·intro j hij hjn hlj y hy hd
   rcases Nat.lt_or_ge i j with q | q
   ·rcases behind j y q hy with r | ⟨r,_⟩
    ·rw [r] at hlj; cases hlj
    ·exact absurd ht ((ZnK r).2 t hd)
   ·have : j = i:=by omega
    subst this
    rw [hun] at hlj; cases hlj
 have hgv : guardV (selE l V ls (E 0) l.length) io.guard = guardV (E i) io.guard:=by
  cases hgd : io.guard with
  | none => rfl
  | some p =>
   simp only [guardV]
   rw [hreads p.1 (by simp [readsOf,hgd])]
 have htm : ∀ t ∈ tmpsOf io.op,getE (selE l V ls (E 0) l.length) t = getE (E i) t:=fun t ht => hreads t (List.mem_append_left _ ht)
 -- the slots behind it
 have hsel : ∀ t,getE (selE l V (ins ls i) (E 0) l.length) t = getE (putE io.dst (V i) (selE l V ls (E 0) l.length)) t:=by
  have lo : ∀ m,m≤i→selE l V (ins ls i) (E 0) m = selE l V ls (E 0) m:=by
   intro m
   induction m with
   | zero => intro _; rfl
   | succ m ih =>
    intro hm
    simp only [selE,ih (by omega)]
    have : ins ls i m = ls m:=by unfold ins; rw [if_neg (by omega)]
    rw [this]
  have hi1 : selE l V (ins ls i) (E 0) (i + 1) = putE io.dst (V i) (selE l V ls (E 0) i):=by
   simp only [selE,lo i (Nat.le_refl _),ins,if_true,hio]; rfl
  have hi2 : selE l V ls (E 0) (i + 1) = selE l V ls (E 0) i:=by simp only [selE,hun]; rfl
  intro t
  rw [ZbF]
  by_cases hd : io.dst = some t
  ·rw [if_pos hd,Zur (k:=i + 1) (by omega) ?_,hi1,ZbF,if_pos hd]
   intro j hij hjn hlj y hy hyd
   have hlj' : ls j = true:=by unfold ins at hlj; rwa [if_neg (by omega)] at hlj
   rcases behind j y (by omega) hy with r | ⟨r,_⟩
   ·rw [r] at hlj'; cases hlj'
   ·exact absurd hyd ((ZnK r).1 t hd).2
  ·rw [if_neg hd]
   have up : ∀ m,i + 1≤m→getE (selE l V (ins ls i) (E 0) m) t = getE (selE l V ls (E 0) m) t:=by
    intro m hm
    induction hm with
    | refl => rw [hi1,hi2,ZbF,if_neg hd]
    | @step m hm ih =>
     have hm' : i + 1≤m:=hm
     simp only [selE]
     have : ins ls i m = ls m:=by unfold ins; rw [if_neg (by omega)]
     rw [this]
     split
     ·rw [ZbF,ZbF,ih]
     ·exact ih
   exact up _ (by omega)
 have henv : ∀ {S' : Sc} {u : Value},S.Le S'→Rel S' (V i) u→EnvR S' C.N (selE l V (ins ls i) (E 0) l.length) (a.put o.dst u):=fun hle hv => by
  have:=ZpB (I.env.mono hle) c4 hv
  rw [← c3]
  exact ⟨this.size,fun t => by rw [hsel t]; exact this.get t⟩
 have hclosed:=Zfm I.closed hrd
 -- its new stage
 have insj : ∀ j,j≠i→ins ls i j = ls j:=fun j hj => by unfold ins; rw [if_neg hj]
 have insi : ins ls i i = true:=by unfold ins; rw [if_pos rfl]
 have hsensDone : isW io.op = true→∀ j y,j < i→l[j]? = some y→sens y.op = true→ls j = true∨∃ g n ax,y.op = .load g n ax:=fun hw j y hj hy hsy => by
  rcases ahead j y hj hy with q | ⟨_,q | ⟨dx,g,n,ax,gx,_,_,_,_,_,q,_,_⟩⟩
  ·exact .inl q
  ·exact absurd ⟨hsy,hw⟩ (ZnJ q).2
  ·exact .inr ⟨g,n,ax,by rw [q]⟩
 have hMk : isW io.op = true→k≤i∧M i = M k:=fun hw => by
  have hki:=(I.wr i io hio hw).2 hun
  refine ⟨hki,Zrw hs hki (by omega) fun j y hkj hji hy => ?_⟩
  cases hsy : sens y.op with
  | false => rfl
  | true =>
   exfalso
   cases hwy : isW y.op with
   | true =>
    rcases hsensDone hw j y hji hy hsy with q | ⟨g,n,ax,q⟩
    ·have:=(I.wr j y hy hwy).1 q
     omega
    ·rw [q] at hwy; cases hwy
   | false => have:=I.qu j y hy hsy hwy; omega
 have stageW : isW io.op = true→∀ {S' : Sc} {u : Value},S.Le S'→Rel S' (V i) u→HR A n0 S' (M (i + 1)).mem (M (i + 1)).fz→Inv C A n0 ops l E M V L G (ins ls i) S' (a.put o.dst u) (i + 1):=by
  intro hw S' u hle hv hh
  refine ⟨hclosed,hle.L.trans I.L,henv hle hv,by omega,hh,?_,?_,?_,I.g.mono hle⟩
  ·intro j y hy hwy
   by_cases hji : j = i
   ·subst hji; exact ⟨fun _ => by omega,fun q => by rw [insi] at q; cases q⟩
   ·rw [insj j hji]
    refine ⟨fun q => ?_,fun q => ?_⟩
    ·have:=(I.wr j y hy hwy).1 q
     have:=(hMk hw).1
     omega
    ·rcases Nat.lt_or_ge j i with r | r
     ·rcases hsensDone hw j y r hy (ZzQ hwy) with z | ⟨g,n,ax,z⟩
      ·rw [q] at z; cases z
      ·rw [z] at hwy; cases hwy
     ·omega
  ·intro j y hy hsy hwy
   have:=I.qu j y hy hsy hwy
   have:=(hMk hw).1
   omega
  ·intro j y hy hsy hwy q hlen
   by_cases hji : j = i
   ·subst hji; rw [insi] at q; cases q
   ·rw [insj j hji] at q
    have h1:=I.qu j y hy hsy hwy
    have h2:=(hMk hw).1
    rcases hsensDone hw j y (by omega) hy hsy with z | ⟨g,n,ax,z⟩
    ·rw [q] at z; cases z
    ·exfalso
     rcases hs.doing j y hy with ⟨_,hop⟩ | ⟨_,_,hm⟩
     ·rw [z] at hop
      obtain ⟨δ,fr,hq,hb,_⟩:=Zey rfl hop
      have:=ZtR hq
      subst this
      rw [hb] at hlen; simp at hlen
     ·rw [hm] at hlen; omega
 have stageQ : isW io.op = false→∀ {S' : Sc} {u : Value},S.Le S'→Rel S' (V i) u→HR A n0 S' (M k).mem (M k).fz →
   (∀ j y,l[j]? = some y→sens y.op = true→isW y.op = false→j≠i→ls j = false→(M j).b.length < (M (j + 1)).b.length→S'.ι (M j).b.length = none)→Inv C A n0 ops l E M V L G (ins ls i) S' (a.put o.dst u) k:=by
  intro hw S' u hle hv hh hids
  refine ⟨hclosed,hle.L.trans I.L,henv hle hv,I.le,hh,?_,I.qu,?_,I.g.mono hle⟩
  ·intro j y hy hwy
   by_cases hji : j = i
   ·subst hji; rw [hio] at hy; cases hy; rw [hw] at hwy; cases hwy
   ·rw [insj j hji]; exact I.wr j y hy hwy
  ·intro j y hy hsy hwy q hlen
   by_cases hji : j = i
   ·subst hji; rw [insi] at q; cases q
   ·rw [insj j hji] at q
    exact hids j y hy hsy hwy hji q hlen
 -- the step
 unfold wpOp
 rw [ho]
 simp only
 rcases hs.doing i io hio with ⟨hg,hop⟩ | ⟨hg,hv0,hm0⟩
 ·have hwant:=ZhJ I.env c2 (hgv.trans hg)
  rw [hwant,if_pos rfl]
  cases hw : isW io.op with
  | true =>
   have hev:=Zmk hw hop
   rw [← ZqQ htm] at hev
   have hki:=hMk hw
   have hr' : HR A n0 S (M i).mem (M i).fz:=by rw [hki.2]; exact I.hr
   refine .inl (Zjm (w_ok (I.L ▸ hL) I.env hr' I.g (I.L ▸ hF) c1 hev) ?_)
   rintro u w' ⟨S',rfl,ok,hv⟩
   exact hK S' u (i + 1) ok.le ok.below (stageW hw ok.le hv ok.hr)
  | false =>
   obtain ⟨δ,fr,hq,hb,hf⟩:=Zey hw hop
   rw [← Zjq htm] at hq
   cases hsn : sens io.op with
   | true =>
    have hik:=I.qu i io hio hsn hw
    by_cases hld : ∃ g n ax,io.op = .load g n ax
    ·-- a read: what was written since lies elsewhere
     obtain ⟨g,n,ax,hld⟩:=hld
     have hax : ∀ t ∈ opdT ax,t ∈ tmpsOf io.op:=fun t ht => by rw [hld]; exact ht
     have hopd : opd (selE l V ls (E 0) l.length) ax = opd (E i) ax:=ZaR fun t ht => htm t (hax t ht)
     have hq2 : evQ G F (selE l V ls (E 0) l.length) (M k).mem (M i).b.length io.op = some (V i,δ,fr):=by
      rw [← hq,hld]
      simp only [evQ,hopd]
      rw [hld] at hq
      simp only [evQ,hopd] at hq
      rw [show rdAt G (M k).mem n (opd (E i) ax) = rdAt G (M i).mem n (opd (E i) ax) from ?_]
      cases hpa : opd (E i) ax <;> simp only [rdAt]
      case ptr b off =>
       rw [hpa] at hq
       have hsome : ∃ blk,(M i).mem b = some blk:=by
        simp only [rdAt,rdBlk] at hq
        cases hx : (M i).mem b with
        | none => rw [hx] at hq; simp at hq
        | some blk => exact ⟨blk,rfl⟩
       obtain ⟨blk,hblk⟩:=hsome
       have key : ∀ m,i≤m→m≤k→(M m).mem b = some blk:=by
        intro m him
        induction him with
        | refl => intro _; exact hblk
        | @step m him ih =>
         intro hmk
         have him' : i≤m:=him
         have ih:=ih (by omega)
         have hml : m < l.length:=by have:=I.le; omega
         have hiom : l[m]? = some l[m]:=List.getElem?_eq_getElem hml
         rcases hs.doing m _ hiom with ⟨_,hopm⟩ | ⟨_,_,hmm⟩
         ·cases hwm : isW l[m].op with
          | false =>
           obtain ⟨δ',fr',_,hb',_⟩:=Zey hwm hopm
           show (M (m + 1)).b[b]? = _
           rw [hb',List.getElem?_append_left (List.getElem?_eq_some_iff.1 ih).1]; exact ih
          | true =>
           have hmi : m≠i:=fun e => by subst e; rw [hio] at hiom; cases hiom; rw [hw] at hwm; cases hwm
           have hlm : ls m = true:=by
            cases q : ls m with
            | true => rfl
            | false => have:=(I.wr m _ hiom hwm).2 q; omega
           rcases behind m _ (by omega) hiom with r | ⟨_,r | ⟨dx,g',n',ax',gx,dy,m',ay,vy,gy,e1,e2,e3⟩⟩
           ·rw [r] at hlm; cases hlm
           ·exact absurd ⟨hsn,hwm⟩ (ZnJ r).2
           ·rw [e1] at hld
            simp only [IOp.load.injEq] at hld
            obtain ⟨rfl,rfl,rfl⟩:=hld
            rw [hpa] at e3
            have hw':=Zmk hwm hopm
            rw [e2] at hw'
            simp only [evW] at hw'
            cases hay : opd (E m) ay <;> rw [hay] at hw' e3 <;> simp only [apart,reduceCtorEq] at hw' e3
            case ptr c off' =>
             have hbc : b≠c:=by simpa using e3
             split at hw'
             ·simp only [Option.map_eq_some_iff] at hw'
              obtain ⟨h2,hwr,he⟩:=hw'
              simp only [Prod.mk.injEq] at he
              obtain ⟨_,rfl⟩:=he
              unfold wrBlk at hwr
              split at hwr
              ·split at hwr
               ·simp only [Option.some.injEq] at hwr
                rw [← hwr]
                show (List.set _ c _)[b]? = _
                rw [List.getElem?_set,if_neg (fun q => hbc q.symm)]; exact ih
               ·cases hwr
              ·cases hwr
             ·cases hw'
         ·rw [hmm]; exact ih
       have hk':=key k (Nat.le_of_lt hik) (Nat.le_refl _)
       simp only [rdBlk,hk',hblk]
     have hδ0 : δ = []∧fr = []:=by rw [hld] at hq; exact ⟨ZtR hq,Zxy hq⟩
     obtain ⟨rfl,rfl⟩:=hδ0
     refine .inl (Zjm (q_ok (I.L ▸ hL) I.env I.hr (fun _ _ q => q) I.g (I.L ▸ hF) c1 hq2 (fun x hx => by cases hx) (fun q => absurd rfl q) (fun b hb => by cases hb)) ?_)
     rintro u w' ⟨S',rfl,ok,hv,hid⟩
     refine hK S' u k ok.le ok.below (stageQ hw ok.le hv ok.hr ?_)
     intro j y hy hsy hwy hji hlj hlen
     rw [hid _ (.inl rfl)]
     exact I.ids j y hy hsy hwy hlj hlen
    -- it makes,or calls: nothing is written yet
    have hnw : ∀ j y,i≤j→j < k→l[j]? = some y→isW y.op = false:=by
     intro j y hij hjk hy
     cases hwy : isW y.op with
     | false => rfl
     | true =>
      exfalso
      have hji : j≠i:=fun e => by subst e; rw [hio] at hy; cases hy; rw [hw] at hwy; cases hwy
      cases hlj : ls j with
      | false => have:=(I.wr j y hy hwy).2 hlj; omega
      | true =>
       rcases behind j y (by omega) hy with r | ⟨_,r | ⟨dx,g',n',ax',gx,_,_,_,_,_,e1,_,_⟩⟩
       ·rw [r] at hlj; cases hlj
       ·exact absurd ⟨hsn,hwy⟩ (ZnJ r).2
       ·exact hld ⟨g',n',ax',by rw [e1]⟩
    obtain ⟨⟨t0,ht0⟩,hf0⟩:=ZhS hs (Nat.le_of_lt hik) I.le hnw
    obtain ⟨⟨t1,ht1⟩,hf1⟩:=ZhS hs (show i + 1≤k by omega) I.le fun j y hij => hnw j y (by omega)
    have hle : ∀ b x,(M i).mem b = some x→(M k).mem b = some x:=fun b x hx => by
     show (M k).b[b]? = _
     rw [ht0,List.getElem?_append_left (List.getElem?_eq_some_iff.1 hx).1]; exact hx
    refine .inl (Zjm (q_ok (I.L ▸ hL) I.env I.hr hle I.g (I.L ▸ hF) c1 hq ?_ ?_ ?_) ?_)
    ·intro x hx
     show (M k).b[(M i).b.length]? = _
     rw [ht1,hb]
     rcases ZnD hq with rfl | ⟨y,rfl⟩
     ·cases hx
     ·simp at hx; subst hx; simp
    ·intro hne
     refine I.ids i io hio hsn hw hun ?_
     rw [hb]
     cases δ with
     | nil => exact absurd rfl hne
     | cons y ys => simp
    ·intro b hbf
     exact hf1 b (by rw [hf]; exact List.mem_append_left _ hbf)
    ·rintro u w' ⟨S',rfl,ok,hv,hid⟩
     refine hK S' u k ok.le ok.below (stageQ hw ok.le hv ok.hr ?_)
     intro j y hy hsy hwy hji hlj hlen
     have hnone:=I.ids j y hy hsy hwy hlj hlen
     rw [hid _ ?_]; exact hnone
     rcases ZnD hq with hδ | ⟨z,hδ⟩
     ·exact .inl hδ
     ·right
      have hlen' : (M (i + 1)).b.length = (M i).b.length + 1:=by rw [hb,hδ]; simp
      have hjk:=I.qu j y hy hsy hwy
      have hkl:=I.le
      rcases Nat.lt_or_ge i j with q | q
      ·obtain ⟨⟨t2,ht2⟩,_⟩:=ZhS hs (show i + 1≤j by omega) (by omega) fun m y' a b => hnw m y' (by omega) (by omega)
       rw [ht2]; simp; omega
      ·have hjw : ∀ m y',j + 1≤m→m < i→l[m]? = some y'→isW y'.op = false:=by
        intro m y' hjm hmi hy'
        cases hwy' : isW y'.op with
        | false => rfl
        | true => exact absurd ⟨hwy',hsn,hw⟩ (hfree.pair m i y' io hmi hy' hio).2
       obtain ⟨⟨t2,ht2⟩,_⟩:=ZhS hs (show j + 1≤i by omega) (by omega) hjw
       have : (M i).b.length = (M (j + 1)).b.length + t2.length:=by rw [ht2]; simp
       omega
   | false =>
    obtain ⟨rfl,rfl⟩:=Zha hsn hq
    rw [ZpD (h2:=(M k).mem) (p2:=0) hsn] at hq
    refine .inl (Zjm (q_ok (I.L ▸ hL) I.env I.hr (fun _ _ q => q) I.g (I.L ▸ hF) c1 hq (fun x hx => by cases hx) (fun q => absurd rfl q) (fun b hb => by cases hb)) ?_)
    rintro u w' ⟨S',rfl,ok,hv,hid⟩
    refine hK S' u k ok.le ok.below (stageQ hw ok.le hv ok.hr ?_)
    intro j y hy hsy hwy hji hlj hlen
    rw [hid _ (.inl rfl)]
    exact I.ids j y hy hsy hwy hlj hlen
 ·have hwant:=ZhJ I.env c2 (hgv.trans hg)
  rw [hwant]
  simp only [Bool.false_eq_true,if_false]
  have hv : Rel S (V i) undef:=by rw [hv0]; simp [Rel,undef,RelL]
  cases hw : isW io.op with
  | true =>
   refine hK S undef (i + 1) (.refl S) (.refl _ _) (stageW hw (.refl S) hv ?_)
   rw [hm0,(hMk hw).2]; exact I.hr
  | false =>
   exact hK S undef k (.refl S) (.refl _ _) (stageQ hw (.refl S) hv I.hr fun j y hy hsy hwy hji hlj hlen => I.ids j y hy hsy hwy hlj hlen)
end
end Go.Cv
namespace Go.Cv
section
variable {C : CC} {A : Nat→Prop} {n0 : Nat} {G : Nat→Option (List AV)} {F : CallF} {ops : Array Oper} {l : List IOper}
theorem Zmo (a : Act) (d : Option Tmp) (u : Value) : (a.put d u).defers = a.defers:=by cases d <;> rfl
theorem Zef {listed : Array Bool} (hsz : listed.size = ops.size) {i : Nat} :
  i ∈ Region.ready .any ops listed↔i < ops.size∧listed.getD i false = false∧∀ o,ops[i]? = some o→∀ e ∈ o.after,Region.binds .any e = true→listed.getD e.on false = true:=by
 unfold Region.ready
 rw [List.mem_filter,List.mem_range]
 constructor
 ·rintro ⟨hi,h⟩
  simp only [Bool.and_eq_true,Bool.not_eq_true'] at h
  obtain ⟨h1,h2⟩:=h
  refine ⟨hi,?_,fun o ho e he hb => ?_⟩
  ·rw [Array.getD_eq_getD_getElem?] at h1 ⊢
   rw [Array.getElem?_eq_getElem (by omega)] at h1 ⊢
   exact h1
  ·rw [ho] at h2
   simp only [Option.map_some,Option.getD_some] at h2
   have:=Array.all_eq_true_iff_forall_mem.1 h2 e he
   simpa [hb] using this
 ·rintro ⟨hi,h1,h2⟩
  refine ⟨hi,?_⟩
  simp only [Bool.and_eq_true,Bool.not_eq_true']
  refine ⟨?_,?_⟩
  ·rw [Array.getD_eq_getD_getElem?] at h1 ⊢
   rw [Array.getElem?_eq_getElem (by omega)] at h1 ⊢
   exact h1
  ·rw [Array.getElem?_eq_getElem hi]
   simp only [Option.map_some,Option.getD_some]
   refine Array.all_eq_true_iff_forall_mem.2 fun e he => ?_
   cases hb : Region.binds .any e with
   | false => rfl
   | true => simpa using h2 _ (Array.getElem?_eq_getElem hi) e he hb
def left (n : Nat) (ls : Nat→Bool) : Nat:=((List.range n).filter fun i => !ls i).length
theorem ZmP {n : Nat} {ls : Nat→Bool} {i : Nat} (hi : i < n) (hu : ls i = false) : left n (ins ls i) + 1≤left n ls:=by
 unfold left
 induction n with
 | zero => omega
 | succ n ih =>
  rw [List.range_succ,List.filter_append,List.filter_append,List.length_append,List.length_append]
  by_cases h : i = n
  ·subst h
   have h1 : (List.filter (fun j => !ins ls i j) (List.range i)) = List.filter (fun j => !ls j) (List.range i):=List.filter_congr fun j hj => by
    have:=List.mem_range.1 hj
    unfold ins; rw [if_neg (by omega)]
   rw [h1]
   simp [ins,hu]
  ·have:=ih (by omega)
   have h2 : ins ls i n = ls n:=by unfold ins; rw [if_neg (fun q => h q.symm)]
   simp only [List.filter_cons,h2,List.filter_nil]
   omega
theorem ZEx (hl : mapO (compOper C ops) ops.toList = some l) {E : Nat→Env} (hfree : Free ops l E) {M : Nat→Heap} {V : Nat→AV} (hs : Seq G F l E M V) {L : Nat→Option FuncId} (hL : Link C L) (hF : CallsOK C.P L G F)
  {Q : Exit→Act→World→Prop} {S0 : Sc} {df : List Deferred} (hQ : ∀ a' S',Ok A n0 S0 S' (M l.length).mem (M l.length).fz→EnvR S' C.N (E l.length) a'→a'.defers = df→Q .normal a' S'.w) :
  ∀ (fuel : Nat) (listed : Array Bool) (S : Sc) (a : Act) (k : Nat),listed.size = ops.size→left ops.size (fun i => listed.getD i false)≤fuel →
   Inv C A n0 ops l E M V L G (fun i => listed.getD i false) S a k→S0.Le S→Go.RowKit.Below n0 S0.w S.w→a.defers = df→wpAny C.P .any ops Q fuel listed a S.w:=by
 have hll : l.length = ops.size:=by rw [Zdr hl]; simp
 have done : ∀ (listed : Array Bool) (S : Sc) (a : Act) (k : Nat),listed.size = ops.size→Region.ready .any ops listed = [] →
   Inv C A n0 ops l E M V L G (fun i => listed.getD i false) S a k→S0.Le S→Go.RowKit.Below n0 S0.w S.w→a.defers = df→Q .normal a S.w:=by
  intro listed S a k hsz hr I hle hbe hdf
  have all : ∀ i,i < ops.size→listed.getD i false = true:=by
   intro i
   induction i using Nat.strongRecOn with
   | _ i ih =>
    intro hi
    cases hli : listed.getD i false with
    | true => rfl
    | false =>
     have : i ∈ Region.ready .any ops listed:=(Zef hsz).2 ⟨hi,hli,fun o ho e he hb => ih e.on (hfree.back i o ho e he hb) (by have:=hfree.back i o ho e he hb; omega)⟩
     rw [hr] at this; cases this
  have hM : M l.length = M k:=Zrw hs I.le (Nat.le_refl _) fun j y hkj hj hy => by
   cases hsy : sens y.op with
   | false => rfl
   | true =>
    exfalso
    cases hwy : isW y.op with
    | true => have:=(I.wr j y hy hwy).1 (all j (by omega)); omega
    | false => have:=I.qu j y hy hsy hwy; omega
  refine hQ a S ⟨hle,by rw [hM]; exact I.hr,hbe⟩ ⟨I.env.size,fun t => ?_⟩ hdf
  have:=I.env.get t
  rwa [Zqn hs (Nat.le_refl _) fun j hj _ _ _ => all j (by omega)] at this
 have step : ∀ (fuel : Nat) (listed : Array Bool) (S : Sc) (a : Act) (k : Nat),listed.size = ops.size→left ops.size (fun i => listed.getD i false)≤fuel + 1 →
   Inv C A n0 ops l E M V L G (fun i => listed.getD i false) S a k→S0.Le S→Go.RowKit.Below n0 S0.w S.w→a.defers = df →
   (∀ (listed' : Array Bool) (S' : Sc) (a' : Act) (k' : Nat),listed'.size = ops.size→left ops.size (fun i => listed'.getD i false)≤fuel →
    Inv C A n0 ops l E M V L G (fun i => listed'.getD i false) S' a' k'→S0.Le S'→Go.RowKit.Below n0 S0.w S'.w→a'.defers = df→wpAny C.P .any ops Q fuel listed' a' S'.w) →
   ∀ i ∈ Region.ready .any ops listed,wpOp C.P ops Q i (wpAny C.P .any ops Q fuel (listed.setIfInBounds i true)) a S.w:=by
  intro fuel listed S a k hsz hfu I hle hbe hdf ih i hi
  obtain ⟨h1,h2,h3⟩:=(Zef hsz).1 hi
  refine ZzP hl hfree hs hL hF I (by omega) h2 h3 fun S' u k' le be I' => ?_
  have hfn : (fun j => (listed.setIfInBounds i true).getD j false) = ins (fun j => listed.getD j false) i:=by
   funext j
   unfold ins
   by_cases hj : j = i
   ·subst hj
    rw [if_pos rfl,Array.getD_eq_getD_getElem?,Array.getElem?_setIfInBounds_self_of_lt (by omega)]; rfl
   ·rw [if_neg hj,Array.getD_eq_getD_getElem?,Array.getElem?_setIfInBounds_ne (fun q => hj q.symm),← Array.getD_eq_getD_getElem?]
  refine ih _ S' _ k' (by simpa using hsz) ?_ (by rw [hfn]; exact I') (hle.trans le) (hbe.trans be) (by rw [Zmo]; exact hdf)
  rw [hfn]
  have:=ZmP (ls:=fun j => listed.getD j false) h1 h2
  omega
 intro fuel
 induction fuel with
 | zero =>
  intro listed S a k hsz hfu I hle hbe hdf
  have hr : Region.ready .any ops listed = []:=by
   apply List.eq_nil_iff_forall_not_mem.2
   intro i hi
   obtain ⟨h1,h2,h3⟩:=(Zef hsz).1 hi
   have:=ZmP (ls:=fun j => listed.getD j false) h1 h2
   omega
  exact ⟨hr,done listed S a k hsz hr I hle hbe hdf⟩
 | succ fuel ih =>
  intro listed S a k hsz hfu I hle hbe hdf
  exact ⟨fun hr => done listed S a k hsz hr I hle hbe hdf,step fuel listed S a k hsz hfu I hle hbe hdf ih⟩
theorem ZCV (hm : C.P.follows .mixedOrders = true) (hl : mapO (compOper C ops) ops.toList = some l) {chk : List (Nat × Nat)} (hdr : drawOk ops l chk = true) {S : Sc} (hL : Link C S.L) (hF : CallsOK C.P S.L G F) {Q : Exit→Act→World→Prop} {h h' : Heap} {e e' : Env} {a : Act} {id : Nat}
  (hev : evOps G F l e h = some (e',h')) (hchk : chkOk e' l chk = true) (hE : EnvR S C.N e a) (H : HR A n0 S h.mem h.fz) (hG : Gok G S)
  (hQ : ∀ a' S',Ok A n0 S S' h'.mem h'.fz→EnvR S' C.N e' a'→a'.defers = a.defers→Q .normal a' S'.w) : (Code.region id ops true).wp C.P Q a S.w:=by
 refine wp_region_any hm ?_
 obtain ⟨E,M,V,hE0,hM0,hEn,hMn,hs⟩:=ZBT hev
 have hll : l.length = ops.size:=by rw [Zdr hl]; simp
 have hfree:=ZDe hdr hs (by rw [hEn]; exact hchk)
 have dr:=Ok.drew H
 -- the first write
 obtain ⟨k,hkl,hk1,hk2⟩ : ∃ k,k≤l.length∧(∀ j io,j < k→l[j]? = some io→isW io.op = false)∧(∀ io,l[k]? = some io→isW io.op = true):=by
  have : ∀ (l : List IOper),∃ k,k≤l.length∧(∀ (j : Nat) (io : IOper),j < k→l[j]? = some io→isW io.op = false)∧(∀ (io : IOper),l[k]? = some io→isW io.op = true):=by
   intro l
   induction l with
   | nil => exact ⟨0,Nat.le_refl _,fun j io hj => by omega,fun io hio => by simp at hio⟩
   | cons x l ih =>
    cases hx : isW x.op with
    | true => exact ⟨0,by simp,fun j io hj => by omega,fun io hio => by simp at hio; subst hio; exact hx⟩
    | false =>
     obtain ⟨k,h1,h2,h3⟩:=ih
     refine ⟨k + 1,by simpa using h1,fun j io hj hio => ?_,fun io hio => h3 io (by simpa using hio)⟩
     cases j with
     | zero => simp at hio; subst hio; exact hx
     | succ j => exact h2 j io (by omega) (by simpa using hio)
  exact this l
 obtain ⟨⟨t,ht⟩,hf⟩:=ZhS hs (Nat.zero_le k) hkl fun j io _ hj hio => hk1 j io hj hio
 have hS : (S.at S.w.drew).w = S.w.drew:=rfl
 have hls : (fun i => (Array.replicate ops.size false).getD i false) = fun _ => false:=by
  funext i
  rw [Array.getD_eq_getD_getElem?,Array.getElem?_replicate]
  split <;> rfl
 have hsel : selE l V (fun _ => false) (E 0) l.length = E 0:=by
  generalize l.length = n
  induction n with
  | zero => rfl
  | succ n ih => simp only [selE]; exact ih
 have I : Inv C A n0 ops l E M V S.L G (fun i => (Array.replicate ops.size false).getD i false) (S.at S.w.drew) a k:=by
  rw [hls]
  refine ⟨fun i hi => Bool.noConfusion hi,rfl,?_,hkl,?_,?_,?_,?_,hG.mono dr.le⟩
  ·rw [hsel,hE0]; exact hE.mono dr.le
  ·refine dr.hr.ext (fun b i hi => ?_) (fun b hb => hf b (by rw [hM0]; exact hb))
   obtain ⟨x,hx⟩:=dr.hr.dom b i hi
   show (M k).b[b]? = h.b[b]?
   rw [ht,hM0,List.getElem?_append_left (List.getElem?_eq_some_iff.1 hx).1]
  ·intro i io hio hw
   refine ⟨fun q => Bool.noConfusion q,fun _ => ?_⟩
   rcases Nat.lt_or_ge i k with q | q
   ·rw [hk1 i io q hio] at hw; cases hw
   ·exact q
  ·intro i io hio hsn hw
   rcases Nat.lt_or_ge i k with q | q
   ·exact q
   ·exfalso
    have hlt:=(List.getElem?_eq_some_iff.1 hio).1
    have hk:=hk2 l[k] (List.getElem?_eq_getElem (by omega))
    rcases Nat.lt_or_ge k i with r | r
    ·exact (hfree.pair k i l[k] io r (List.getElem?_eq_getElem (by omega)) hio).2 ⟨hk,hsn,hw⟩
    ·have : k = i:=by omega
     subst this
     rw [hk2 io hio] at hw; cases hw
  ·intro i io hio hsn hw _ hlen
   have hik : i≤k:=by
    rcases Nat.lt_or_ge k i with q | q
    ·have hlt:=(List.getElem?_eq_some_iff.1 hio).1
     exact absurd ⟨hk2 l[k] (List.getElem?_eq_getElem (by omega)),hsn,hw⟩ (hfree.pair k i l[k] io q (List.getElem?_eq_getElem (by omega)) hio).2
    ·exact q
   obtain ⟨⟨t2,ht2⟩,_⟩:=ZhS hs (Nat.zero_le i) (by omega) fun j io _ hj hio => hk1 j io (by omega) hio
   exact Zlj dr.hr (by rw [ht2,hM0]; simp)
 have hdone:=ZEx hl hfree hs hL hF (S0:=S.at S.w.drew) (df:=a.defers) (Q:=Q) (fun a' S' ok hE' hd => hQ a' S' (dr.trans (by rw [hMn] at ok; exact ok)) (by rw [hEn] at hE'; exact hE') hd)
  ops.size (Array.replicate ops.size false) (S.at S.w.drew) a k (by simp) (by unfold left; exact Nat.le_trans (List.length_filter_le _ _) (by simp)) I (.refl _) (.refl _ _) rfl
 exact hdone
end
end Go.Cv
