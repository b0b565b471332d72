/-
 A part of the proof of the statements of this seat (texts that the law's own text leans on): no condition.
-/
import Derived.Test.YtddmoldiopnifaaGreatDoorM3
set_option linter.unusedVariables false
set_option linter.unusedSimpArgs false
namespace Go.Cv
theorem Zfx {G : Nat→Option (List AV)} {F : CallF} {e : Env} {h h' : Heap} {o : IOp} {v : AV} (hw : isW o = false) (hev : evOp G F e h o = some (v,h')) :
  ∃ δ fr,evQ G F e h.mem h.b.length o = some (v,δ,fr)∧h'.b = h.b ++ δ∧h'.f = fr ++ h.f:=by
 unfold evOp at hev
 rw [if_neg (by simp [hw]),Option.map_eq_some_iff] at hev
 obtain ⟨⟨v',δ,fr⟩,hq,he⟩:=hev
 simp only [Prod.mk.injEq] at he
 obtain ⟨rfl,rfl⟩:=he
 exact ⟨δ,fr,hq,rfl,rfl⟩
theorem Zoq {G : Nat→Option (List AV)} {F : CallF} {e : Env} {h h' : Heap} {o : IOp} {v : AV} (hw : isW o = true) (hev : evOp G F e h o = some (v,h')) : evW G F e h o = some (v,h'):=by
 unfold evOp at hev
 rwa [if_pos hw] at hev
theorem ZiR {G : Nat→Option (List AV)} {F : CallF} {l : List IOper} {E : Nat→Env} {M : Nat→Heap} {V : Nat→AV} (hs : Seq G F l E M V) {i : Nat} :
  ∀ {k : Nat},i≤k→k≤l.length→(∀ j io,i≤j→j < k→l[j]? = some io→isW io.op = false)→(∃ t,(M k).b = (M i).b ++ t)∧∀ b ∈ (M i).f,b ∈ (M k).f:=by
 intro k hik
 induction hik with
 | refl => intro _ _; exact ⟨⟨[],by simp⟩,fun _ h => h⟩
 | @step k hik ih =>
  intro hk h
  obtain ⟨⟨t,ht⟩,hf⟩:=ih (by omega) fun j io a b => h j io a (by omega)
  have hio : l[k]? = some l[k]:=List.getElem?_eq_getElem (by omega)
  rcases hs.doing k _ hio with ⟨_,hop⟩ | ⟨_,_,hm⟩
  ·obtain ⟨δ,fr,_,h1,h2⟩:=Zfx (h k _ hik (by omega) hio) hop
   refine ⟨⟨t ++ δ,by rw [h1,ht]; simp⟩,fun b hb => by rw [h2]; exact List.mem_append_right _ (hf b hb)⟩
  ·rw [hm]; exact ⟨⟨t,ht⟩,hf⟩
theorem ZsU {G : Nat→Option (List AV)} {F : CallF} {l : List IOper} {E : Nat→Env} {M : Nat→Heap} {V : Nat→AV} (hs : Seq G F l E M V) {i : Nat} :
  ∀ {k : Nat},i≤k→k≤l.length→(∀ j io,i≤j→j < k→l[j]? = some io→sens io.op = false)→M k = M i:=by
 intro k hik
 induction hik with
 | refl => intro _ _; rfl
 | @step k hik ih =>
  intro hk h
  have ih':=ih (by omega) fun j io a b => h j io a (by omega)
  have hio : l[k]? = some l[k]:=List.getElem?_eq_getElem (by omega)
  have hsn:=h k _ hik (by omega) hio
  have hw : isW l[k].op = false:=by
   generalize l[k].op = o at hsn
   cases o <;> first | rfl | (simp [sens] at hsn; done)
  rcases hs.doing k _ hio with ⟨_,hop⟩ | ⟨_,_,hm⟩
  ·obtain ⟨δ,fr,hq,h1,h2⟩:=Zfx hw hop
   obtain ⟨rfl,rfl⟩:=ZiA hsn hq
   rw [← ih']
   cases hM : M (k + 1) with
   | mk b f =>
    rw [hM] at h1 h2
    cases hM' : M k with
    | mk b' f' =>
     rw [hM'] at h1 h2
     simp at h1 h2
     rw [h1,h2]
  ·rw [hm,ih']
section
variable {C : CC} {A : Nat→Prop} {n0 : Nat} {G : Nat→Option (List AV)} {F : CallF} {ops : Array Oper} {l : List IOper}
def Lone (E : Nat→Env) (i j : Nat) (x y : IOper) : Prop :=
 ∃ dx g n ax gx dy m ay vy gy,x = ⟨dx,.load g n ax,gx⟩∧y = ⟨dy,.store m ay vy,gy⟩∧apart (opd (E i) ax) (opd (E j) ay) = true
structure Free (ops : Array Oper) (l : List IOper) (E : Nat→Env) : Prop where
 back : ∀ i o,ops[i]? = some o→∀ e ∈ o.after,Region.binds .any e = true→e.on < i
 pair : ∀ i j x y,i < j→l[i]? = some x→l[j]? = some y→(((Region.before ops).getD j 0).testBit i = true∨(indT x y = true∧(indM x y = true∨Lone E i j x y)))∧¬ (isW x.op = true∧sens y.op = true∧isW y.op = false)
theorem Zrh {G : Nat→Option (List AV)} {F : CallF} {l : List IOper} {E : Nat→Env} {M : Nat→Heap} {V : Nat→AV} (hs : Seq G F l E M V) {i : Nat} {a : IOpd} :
  ∀ {k : Nat},i≤k→k≤l.length→(∀ m z,i≤m→m < k→l[m]? = some z→∀ t ∈ opdT a,z.dst≠some t)→opd (E k) a = opd (E i) a:=by
 intro k hik
 induction hik with
 | refl => intro _ _; rfl
 | @step k hik ih =>
  intro hk h
  have hio : l[k]? = some l[k]:=List.getElem?_eq_getElem (by omega)
  rw [← ih (by omega) fun m z a b => h m z a (by omega)]
  refine ZaD fun t ht => ?_
  rw [hs.env k _ hio,ZbC,if_neg (h k _ hik (by omega) hio t ht)]
theorem ZFu {e : Env} {ops : List IOper} {chk : List (Nat × Nat)} (h : chkOk e ops chk = true) {i j : Nat} (hm : (i,j) ∈ chk) :
  (match ops[i]?,ops[j]? with | some ⟨_,.load _ _ a,_⟩,some ⟨_,.store _ b _,_⟩ => apart (opd e a) (opd e b) | _,_ => false) = true:=by
 induction chk with
 | nil => cases hm
 | cons p r ih =>
  obtain ⟨i',j'⟩:=p
  simp only [chkOk,Bool.and_eq_true] at h
  rcases List.mem_cons.1 hm with he | hm
  ·cases he; exact h.1
  ·exact ih h.2 hm
theorem ZEV {chk : List (Nat × Nat)} (h : drawOk ops l chk = true) {E : Nat→Env} {M : Nat→Heap} {V : Nat→AV} (hs : Seq G F l E M V) (hchk : chkOk (E l.length) l chk = true) : Free ops l E:=by
 unfold drawOk at h
 simp only [Bool.and_eq_true,List.all_eq_true,List.mem_range] at h
 obtain ⟨h1,h2⟩:=h
 refine ⟨fun i o ho e he hb => ?_,fun i j x y hij hx hy => ?_⟩
 ·have hlt : i < ops.size:=by
   rcases Nat.lt_or_ge i ops.size with q | q
   ·exact q
   ·simp [Array.getElem?_eq_none q] at ho
  have:=h1 i hlt
  rw [ho] at this
  have:=List.all_eq_true.1 this e (by simpa using he)
  simpa [hb] using this
 ·have hlt : j < l.length:=(List.getElem?_eq_some_iff.1 hy).1
  have:=h2 j hlt i hij
  rw [hx,hy] at this
  simp only [Bool.and_eq_true,Bool.or_eq_true,Bool.not_eq_true',Bool.and_eq_false_iff,Bool.not_eq_false'] at this
  refine ⟨?_,fun ⟨a,b,c⟩ => ?_⟩
  ·rcases this.1 with q | ⟨q1,q2 | ⟨q2,q3⟩⟩
   ·exact .inl q
   ·exact .inr ⟨q1,.inl q2⟩
   ·refine .inr ⟨q1,.inr ?_⟩
    have hm : (i,j) ∈ chk:=by simpa using q2
    have hc:=ZFu hchk hm
    rw [hx,hy] at hc
    unfold loneS at q3
    rw [hx,hy] at q3
    split at q3
    ·next dx g n ax gx dy m ay vy gy h3 h4 =>
     cases h3; cases h4
     simp only at hc
     have hall:=List.all_eq_true.1 q3
     have ha : opd (E l.length) ax = opd (E i) ax:=Zrh hs (by omega) (Nat.le_refl _) fun m z him hml hz t ht => by
      have:=hall m (List.mem_range.2 hml)
      rw [hz] at this
      simp only [Bool.and_eq_true,Bool.or_eq_true,decide_eq_true_eq] at this
      have:=this.1.resolve_left (by omega)
      simpa using List.all_eq_true.1 this t ht
     have hb : opd (E l.length) ay = opd (E j) ay:=Zrh hs (by omega) (Nat.le_refl _) fun m z him hml hz t ht => by
      have:=hall m (List.mem_range.2 hml)
      rw [hz] at this
      simp only [Bool.and_eq_true,Bool.or_eq_true,decide_eq_true_eq] at this
      have:=this.2.resolve_left (by omega)
      simpa using List.all_eq_true.1 this t ht
     rw [ha,hb] at hc
     exact ⟨dx,g,n,ax,gx,dy,m,ay,vy,gy,rfl,rfl,hc⟩
    ·cases q3
  ·rcases this.2 with (q | q) | q
   ·rw [a] at q; cases q
   ·rw [b] at q; cases q
   ·rw [c] at q; cases q
theorem ZqD {x y : IOper} (h : indT x y = true) : (∀ d,x.dst = some d→d ∉ readsOf y∧y.dst≠some d)∧(∀ d,y.dst = some d→d ∉ readsOf x):=by
 unfold indT at h
 simp only [Bool.and_eq_true] at h
 obtain ⟨h1,h2⟩:=h
 refine ⟨fun d hd => ?_,fun d hd => ?_⟩
 ·rw [hd] at h1
  simpa using h1
 ·rw [hd] at h2
  simpa using h2
theorem ZpI {x y : IOper} (h : indM x y = true) : ¬ (isW x.op = true∧sens y.op = true)∧¬ (sens x.op = true∧isW y.op = true):=by
 unfold indM at h
 simp only [Bool.and_eq_true,Bool.not_eq_true'] at h
 obtain ⟨h3,h4⟩:=h
 refine ⟨fun ⟨a,b⟩ => ?_,fun ⟨a,b⟩ => ?_⟩
 ·rw [a,b] at h3; cases h3
 ·rw [a,b] at h4; cases h4
theorem Zxc {G : Nat→Option (List AV)} {F : CallF} {e : Env} {h : Mem} {p : Nat} {g : Bool} {n : Nat} {ax : IOpd} {v : AV} {δ : List Blk} {fr : List Nat} (hq : evQ G F e h p (.load g n ax) = some (v,δ,fr)) : δ = []:=by
 simp only [evQ] at hq
 split at hq
 ·simp only [Option.map_eq_some_iff] at hq; obtain ⟨_,_,he⟩:=hq; cases he; rfl
 ·cases hq
theorem Zyc {G : Nat→Option (List AV)} {F : CallF} {e : Env} {h : Mem} {p : Nat} {g : Bool} {n : Nat} {ax : IOpd} {v : AV} {δ : List Blk} {fr : List Nat} (hq : evQ G F e h p (.load g n ax) = some (v,δ,fr)) : fr = []:=by
 simp only [evQ] at hq
 split at hq
 ·simp only [Option.map_eq_some_iff] at hq; obtain ⟨_,_,he⟩:=hq; cases he; rfl
 ·cases hq
theorem ZCE {o : IOp} (h : isW o = true) : sens o = true:=by cases o <;> first | rfl | (rename_i inl f as; cases inl <;> rfl) | (simp [isW] at h; done)
structure Inv (C : CC) (A : Nat→Prop) (n0 : Nat) (ops : Array Oper) (l : List IOper) (E : Nat→Env) (M : Nat→Heap) (V : Nat→AV) (L : Nat→Option FuncId) (G : Nat→Option (List AV)) (ls : Nat→Bool) (S : Sc) (a : Act) (k : Nat) : Prop where
 closed : Closed ops ls
 L : S.L = L
 env : EnvR S C.N (selE l V ls (E 0) l.length) a
 le : k≤l.length
 hr : HR A n0 S (M k).mem (M k).fz
 wr : ∀ i io,l[i]? = some io→isW io.op = true→(ls i = true→i < k)∧(ls i = false→k≤i)
 qu : ∀ i io,l[i]? = some io→sens io.op = true→isW io.op = false→i < k
 ids : ∀ i io,l[i]? = some io→sens io.op = true→isW io.op = false→ls i = false→(M i).b.length < (M (i + 1)).b.length→S.ι (M i).b.length = none
 g : Gok G S
def ins (ls : Nat→Bool) (i : Nat) : Nat→Bool:=fun j => if j = i then true else ls j
theorem Zgm {ls : Nat→Bool} (hc : Closed ops ls) {i : Nat} (hr : ∀ o,ops[i]? = some o→∀ e ∈ o.after,Region.binds .any e = true→ls e.on = true) : Closed ops (ins ls i):=by
 intro j hj o ho e he hb
 unfold ins at hj ⊢
 split
 ·rfl
 ·split at hj
  ·next hji => subst hji; exact hr o ho e he hb
  ·exact hc j hj o ho e he hb
theorem ZCv (hl : mapO (compOper C ops) ops.toList = some l) {E : Nat→Env} (hfree : Free ops l E) {M : Nat→Heap} {V : Nat→AV} (hs : Seq G F l E M V) {L : Nat→Option FuncId} (hL : Link C L) (hF : CallsOK C.P L G F)
  {ls : Nat→Bool} {S : Sc} {a : Act} {k : Nat} (I : Inv C A n0 ops l E M V L G ls S a k) {i : Nat} (hi : i < l.length) (hun : ls i = false)
  (hrd : ∀ o,ops[i]? = some o→∀ e ∈ o.after,Region.binds .any e = true→ls e.on = true)
  {Q : Exit→Act→World→Prop} {K : Act→World→Prop}
  (hK : ∀ (S' : Sc) (u : Value) (k' : Nat),S.Le S'→Go.RowKit.Below n0 S.w S'.w→Inv C A n0 ops l E M V L G (ins ls i) S' (a.put ((ops[i]?).bind (·.dst)) u) k'→K (a.put ((ops[i]?).bind (·.dst)) u) S'.w) :
  wpOp C.P ops Q i K a S.w:=by
 have hio : l[i]? = some l[i]:=List.getElem?_eq_getElem hi
 generalize hx : l[i] = io at hio
 obtain ⟨o,ho,hc⟩:=ZlJ hl i io hio
 rw [Array.getElem?_toList] at ho
 obtain ⟨c1,c2,c3,c4⟩:=ZgF hc
 have hdst : (ops[i]?).bind (·.dst) = o.dst:=by rw [ho]; rfl
 rw [hdst] at hK
 -- what stands ahead of it is done,what it stands ahead of isn't
 have ahead : ∀ j y,j < i→l[j]? = some y→ls j = true∨(indT y io = true∧(indM y io = true∨Lone E j i y io)):=fun j y hj hy => by
  rcases (hfree.pair j i y io hj hy hio).1 with q | q
  ·exact .inl (Zfj q I.closed hrd)
  ·exact .inr q
 have behind : ∀ j y,i < j→l[j]? = some y→ls j = false∨(indT io y = true∧(indM io y = true∨Lone E i j io y)):=fun j y hj hy => by
  cases hlj : ls j with
  | false => exact .inl rfl
  | true =>
   rcases (hfree.pair i j io y hj hio hy).1 with q | q
   ·have:=Zfj q I.closed (fun o' ho' e he hb => I.closed j hlj o' ho' e he hb)
    rw [hun] at this; cases this
   ·exact .inr q
 -- the slots that it looks at are as in the text's order
 have hreads : ∀ t ∈ readsOf io,getE (selE l V ls (E 0) l.length) t = getE (E i) t:=by
  intro t ht
  rw [ZvE (k:=i) (by omega) ?_,Zsm hs (by omega) ?_]
  ·intro j hj y hy hd
   rcases ahead j y hj hy with q | ⟨q,_⟩
   ·exact q
   ·exact absurd ht ((ZqD q).1 t hd).1
  ·intro j hij hjn hlj y hy hd
   rcases Nat.lt_or_ge i j with q | q
   ·rcases behind j y q hy with r | ⟨r,_⟩
    ·rw [r] at hlj; cases hlj
    ·exact absurd ht ((ZqD r).2 t hd)
   ·have : j = i:=by omega
    subst this
    rw [hun] at hlj; cases hlj
 have hgv : guardV (selE l V ls (E 0) l.length) io.guard = guardV (E i) io.guard:=by
  cases hgd : io.guard with
  | none => rfl
  | some p =>
   simp only [guardV]
   rw [hreads p.1 (by simp [readsOf,hgd])]
 have htm : ∀ t ∈ tmpsOf io.op,getE (selE l V ls (E 0) l.length) t = getE (E i) t:=fun t ht => hreads t (List.mem_append_left _ ht)
 -- the slots behind it
 have hsel : ∀ t,getE (selE l V (ins ls i) (E 0) l.length) t = getE (putE io.dst (V i) (selE l V ls (E 0) l.length)) t:=by
  have lo : ∀ m,m≤i→selE l V (ins ls i) (E 0) m = selE l V ls (E 0) m:=by
   intro m
   induction m with
   | zero => intro _; rfl
   | succ m ih =>
    intro hm
    simp only [selE,ih (by omega)]
    have : ins ls i m = ls m:=by unfold ins; rw [if_neg (by omega)]
    rw [this]
  have hi1 : selE l V (ins ls i) (E 0) (i + 1) = putE io.dst (V i) (selE l V ls (E 0) i):=by
   simp only [selE,lo i (Nat.le_refl _),ins,if_true,hio]; rfl
  have hi2 : selE l V ls (E 0) (i + 1) = selE l V ls (E 0) i:=by simp only [selE,hun]; rfl
  intro t
  rw [ZbC]
  by_cases hd : io.dst = some t
  ·rw [if_pos hd,ZvE (k:=i + 1) (by omega) ?_,hi1,ZbC,if_pos hd]
   intro j hij hjn hlj y hy hyd
   have hlj' : ls j = true:=by unfold ins at hlj; rwa [if_neg (by omega)] at hlj
   rcases behind j y (by omega) hy with r | ⟨r,_⟩
   ·rw [r] at hlj'; cases hlj'
   ·exact absurd hyd ((ZqD r).1 t hd).2
  ·rw [if_neg hd]
   have up : ∀ m,i + 1≤m→getE (selE l V (ins ls i) (E 0) m) t = getE (selE l V ls (E 0) m) t:=by
    intro m hm
    induction hm with
    | refl => rw [hi1,hi2,ZbC,if_neg hd]
    | @step m hm ih =>
     have hm' : i + 1≤m:=hm
     simp only [selE]
     have : ins ls i m = ls m:=by unfold ins; rw [if_neg (by omega)]
     rw [this]
     split
     ·rw [ZbC,ZbC,ih]
     ·exact ih
   exact up _ (by omega)
 have henv : ∀ {S' : Sc} {u : Value},S.Le S'→Rel S' (V i) u→EnvR S' C.N (selE l V (ins ls i) (E 0) l.length) (a.put o.dst u):=fun hle hv => by
  have:=ZrY (I.env.mono hle) c4 hv
  rw [← c3]
  exact ⟨this.size,fun t => by rw [hsel t]; exact this.get t⟩
 have hclosed:=Zgm I.closed hrd
 -- its new stage
 have insj : ∀ j,j≠i→ins ls i j = ls j:=fun j hj => by unfold ins; rw [if_neg hj]
 have insi : ins ls i i = true:=by unfold ins; rw [if_pos rfl]
 have hsensDone : isW io.op = true→∀ j y,j < i→l[j]? = some y→sens y.op = true→ls j = true∨∃ g n ax,y.op = .load g n ax:=fun hw j y hj hy hsy => by
  rcases ahead j y hj hy with q | ⟨_,q | ⟨dx,g,n,ax,gx,_,_,_,_,_,q,_,_⟩⟩
  ·exact .inl q
  ·exact absurd ⟨hsy,hw⟩ (ZpI q).2
  ·exact .inr ⟨g,n,ax,by rw [q]⟩
 have hMk : isW io.op = true→k≤i∧M i = M k:=fun hw => by
  have hki:=(I.wr i io hio hw).2 hun
  refine ⟨hki,ZsU hs hki (by omega) fun j y hkj hji hy => ?_⟩
  cases hsy : sens y.op with
  | false => rfl
  | true =>
   exfalso
   cases hwy : isW y.op with
   | true =>
    rcases hsensDone hw j y hji hy hsy with q | ⟨g,n,ax,q⟩
    ·have:=(I.wr j y hy hwy).1 q
     omega
    ·rw [q] at hwy; cases hwy
   | false => have:=I.qu j y hy hsy hwy; omega
 have stageW : isW io.op = true→∀ {S' : Sc} {u : Value},S.Le S'→Rel S' (V i) u→HR A n0 S' (M (i + 1)).mem (M (i + 1)).fz→Inv C A n0 ops l E M V L G (ins ls i) S' (a.put o.dst u) (i + 1):=by
  intro hw S' u hle hv hh
  refine ⟨hclosed,hle.L.trans I.L,henv hle hv,by omega,hh,?_,?_,?_,I.g.mono hle⟩
  ·intro j y hy hwy
   by_cases hji : j = i
   ·subst hji; exact ⟨fun _ => by omega,fun q => by rw [insi] at q; cases q⟩
   ·rw [insj j hji]
    refine ⟨fun q => ?_,fun q => ?_⟩
    ·have:=(I.wr j y hy hwy).1 q
     have:=(hMk hw).1
     omega
    ·rcases Nat.lt_or_ge j i with r | r
     ·rcases hsensDone hw j y r hy (ZCE hwy) with z | ⟨g,n,ax,z⟩
      ·rw [q] at z; cases z
      ·rw [z] at hwy; cases hwy
     ·omega
  ·intro j y hy hsy hwy
   have:=I.qu j y hy hsy hwy
   have:=(hMk hw).1
   omega
  ·intro j y hy hsy hwy q hlen
   by_cases hji : j = i
   ·subst hji; rw [insi] at q; cases q
   ·rw [insj j hji] at q
    have h1:=I.qu j y hy hsy hwy
    have h2:=(hMk hw).1
    rcases hsensDone hw j y (by omega) hy hsy with z | ⟨g,n,ax,z⟩
    ·rw [q] at z; cases z
    ·exfalso
     rcases hs.doing j y hy with ⟨_,hop⟩ | ⟨_,_,hm⟩
     ·rw [z] at hop
      obtain ⟨δ,fr,hq,hb,_⟩:=Zfx rfl hop
      have:=Zxc hq
      subst this
      rw [hb] at hlen; simp at hlen
     ·rw [hm] at hlen; omega
 have stageQ : isW io.op = false→∀ {S' : Sc} {u : Value},S.Le S'→Rel S' (V i) u→HR A n0 S' (M k).mem (M k).fz →
   (∀ j y,l[j]? = some y→sens y.op = true→isW y.op = false→j≠i→ls j = false→(M j).b.length < (M (j + 1)).b.length→S'.ι (M j).b.length = none)→Inv C A n0 ops l E M V L G (ins ls i) S' (a.put o.dst u) k:=by
  intro hw S' u hle hv hh hids
  refine ⟨hclosed,hle.L.trans I.L,henv hle hv,I.le,hh,?_,I.qu,?_,I.g.mono hle⟩
  ·intro j y hy hwy
   by_cases hji : j = i
   ·subst hji; rw [hio] at hy; cases hy; rw [hw] at hwy; cases hwy
   ·rw [insj j hji]; exact I.wr j y hy hwy
  ·intro j y hy hsy hwy q hlen
   by_cases hji : j = i
   ·subst hji; rw [insi] at q; cases q
   ·rw [insj j hji] at q
    exact hids j y hy hsy hwy hji q hlen
 -- the step
 unfold wpOp
 rw [ho]
 simp only
 rcases hs.doing i io hio with ⟨hg,hop⟩ | ⟨hg,hv0,hm0⟩
 ·have hwant:=ZkU I.env c2 (hgv.trans hg)
  rw [hwant,if_pos rfl]
  cases hw : isW io.op with
  | true =>
   have hev:=Zoq hw hop
   rw [← ZtY htm] at hev
   have hki:=hMk hw
   have hr' : HR A n0 S (M i).mem (M i).fz:=by rw [hki.2]; exact I.hr
   refine .inl (Zlc (w_ok (I.L ▸ hL) I.env hr' I.g (I.L ▸ hF) c1 hev) ?_)
   rintro u w' ⟨S',rfl,ok,hv⟩
   exact hK S' u (i + 1) ok.le ok.below (stageW hw ok.le hv ok.hr)
  | false =>
   obtain ⟨δ,fr,hq,hb,hf⟩:=Zfx hw hop
   rw [← ZkW htm] at hq
   cases hsn : sens io.op with
   | true =>
    have hik:=I.qu i io hio hsn hw
    by_cases hld : ∃ g n ax,io.op = .load g n ax
    ·-- a read: what was written since lies elsewhere
     obtain ⟨g,n,ax,hld⟩:=hld
     have hax : ∀ t ∈ opdT ax,t ∈ tmpsOf io.op:=fun t ht => by rw [hld]; exact ht
     have hopd : opd (selE l V ls (E 0) l.length) ax = opd (E i) ax:=ZaD fun t ht => htm t (hax t ht)
     have hq2 : evQ G F (selE l V ls (E 0) l.length) (M k).mem (M i).b.length io.op = some (V i,δ,fr):=by
      rw [← hq,hld]
      simp only [evQ,hopd]
      rw [hld] at hq
      simp only [evQ,hopd] at hq
      rw [show rdAt G (M k).mem n (opd (E i) ax) = rdAt G (M i).mem n (opd (E i) ax) from ?_]
      cases hpa : opd (E i) ax <;> simp only [rdAt]
      case ptr b off =>
       rw [hpa] at hq
       have hsome : ∃ blk,(M i).mem b = some blk:=by
        simp only [rdAt,rdBlk] at hq
        cases hx : (M i).mem b with
        | none => rw [hx] at hq; simp at hq
        | some blk => exact ⟨blk,rfl⟩
       obtain ⟨blk,hblk⟩:=hsome
       have key : ∀ m,i≤m→m≤k→(M m).mem b = some blk:=by
        intro m him
        induction him with
        | refl => intro _; exact hblk
        | @step m him ih =>
         intro hmk
         have him' : i≤m:=him
         have ih:=ih (by omega)
         have hml : m < l.length:=by have:=I.le; omega
         have hiom : l[m]? = some l[m]:=List.getElem?_eq_getElem hml
         rcases hs.doing m _ hiom with ⟨_,hopm⟩ | ⟨_,_,hmm⟩
         ·cases hwm : isW l[m].op with
          | false =>
           obtain ⟨δ',fr',_,hb',_⟩:=Zfx hwm hopm
           show (M (m + 1)).b[b]? = _
           rw [hb',List.getElem?_append_left (List.getElem?_eq_some_iff.1 ih).1]; exact ih
          | true =>
           have hmi : m≠i:=fun e => by subst e; rw [hio] at hiom; cases hiom; rw [hw] at hwm; cases hwm
           have hlm : ls m = true:=by
            cases q : ls m with
            | true => rfl
            | false => have:=(I.wr m _ hiom hwm).2 q; omega
           rcases behind m _ (by omega) hiom with r | ⟨_,r | ⟨dx,g',n',ax',gx,dy,m',ay,vy,gy,e1,e2,e3⟩⟩
           ·rw [r] at hlm; cases hlm
           ·exact absurd ⟨hsn,hwm⟩ (ZpI r).2
           ·rw [e1] at hld
            simp only [IOp.load.injEq] at hld
            obtain ⟨rfl,rfl,rfl⟩:=hld
            rw [hpa] at e3
            have hw':=Zoq hwm hopm
            rw [e2] at hw'
            simp only [evW] at hw'
            cases hay : opd (E m) ay <;> rw [hay] at hw' e3 <;> simp only [apart,reduceCtorEq] at hw' e3
            case ptr c off' =>
             have hbc : b≠c:=by simpa using e3
             split at hw'
             ·simp only [Option.map_eq_some_iff] at hw'
              obtain ⟨h2,hwr,he⟩:=hw'
              simp only [Prod.mk.injEq] at he
              obtain ⟨_,rfl⟩:=he
              unfold wrBlk at hwr
              split at hwr
              ·split at hwr
               ·simp only [Option.some.injEq] at hwr
                rw [← hwr]
                show (List.set _ c _)[b]? = _
                rw [List.getElem?_set,if_neg (fun q => hbc q.symm)]; exact ih
               ·cases hwr
              ·cases hwr
             ·cases hw'
         ·rw [hmm]; exact ih
       have hk':=key k (Nat.le_of_lt hik) (Nat.le_refl _)
       simp only [rdBlk,hk',hblk]
     have hδ0 : δ = []∧fr = []:=by rw [hld] at hq; exact ⟨Zxc hq,Zyc hq⟩
     obtain ⟨rfl,rfl⟩:=hδ0
     refine .inl (Zlc (q_ok (I.L ▸ hL) I.env I.hr (fun _ _ q => q) I.g (I.L ▸ hF) c1 hq2 (fun x hx => by cases hx) (fun q => absurd rfl q) (fun b hb => by cases hb)) ?_)
     rintro u w' ⟨S',rfl,ok,hv,hid⟩
     refine hK S' u k ok.le ok.below (stageQ hw ok.le hv ok.hr ?_)
     intro j y hy hsy hwy hji hlj hlen
     rw [hid _ (.inl rfl)]
     exact I.ids j y hy hsy hwy hlj hlen
    -- it makes,or calls: nothing is written yet
    have hnw : ∀ j y,i≤j→j < k→l[j]? = some y→isW y.op = false:=by
     intro j y hij hjk hy
     cases hwy : isW y.op with
     | false => rfl
     | true =>
      exfalso
      have hji : j≠i:=fun e => by subst e; rw [hio] at hy; cases hy; rw [hw] at hwy; cases hwy
      cases hlj : ls j with
      | false => have:=(I.wr j y hy hwy).2 hlj; omega
      | true =>
       rcases behind j y (by omega) hy with r | ⟨_,r | ⟨dx,g',n',ax',gx,_,_,_,_,_,e1,_,_⟩⟩
       ·rw [r] at hlj; cases hlj
       ·exact absurd ⟨hsn,hwy⟩ (ZpI r).2
       ·exact hld ⟨g',n',ax',by rw [e1]⟩
    obtain ⟨⟨t0,ht0⟩,hf0⟩:=ZiR hs (Nat.le_of_lt hik) I.le hnw
    obtain ⟨⟨t1,ht1⟩,hf1⟩:=ZiR hs (show i + 1≤k by omega) I.le fun j y hij => hnw j y (by omega)
    have hle : ∀ b x,(M i).mem b = some x→(M k).mem b = some x:=fun b x hx => by
     show (M k).b[b]? = _
     rw [ht0,List.getElem?_append_left (List.getElem?_eq_some_iff.1 hx).1]; exact hx
    refine .inl (Zlc (q_ok (I.L ▸ hL) I.env I.hr hle I.g (I.L ▸ hF) c1 hq ?_ ?_ ?_) ?_)
    ·intro x hx
     show (M k).b[(M i).b.length]? = _
     rw [ht1,hb]
     rcases ZnY hq with rfl | ⟨y,rfl⟩
     ·cases hx
     ·simp at hx; subst hx; simp
    ·intro hne
     refine I.ids i io hio hsn hw hun ?_
     rw [hb]
     cases δ with
     | nil => exact absurd rfl hne
     | cons y ys => simp
    ·intro b hbf
     exact hf1 b (by rw [hf]; exact List.mem_append_left _ hbf)
    ·rintro u w' ⟨S',rfl,ok,hv,hid⟩
     refine hK S' u k ok.le ok.below (stageQ hw ok.le hv ok.hr ?_)
     intro j y hy hsy hwy hji hlj hlen
     have hnone:=I.ids j y hy hsy hwy hlj hlen
     rw [hid _ ?_]; exact hnone
     rcases ZnY hq with hδ | ⟨z,hδ⟩
     ·exact .inl hδ
     ·right
      have hlen' : (M (i + 1)).b.length = (M i).b.length + 1:=by rw [hb,hδ]; simp
      have hjk:=I.qu j y hy hsy hwy
      have hkl:=I.le
      rcases Nat.lt_or_ge i j with q | q
      ·obtain ⟨⟨t2,ht2⟩,_⟩:=ZiR hs (show i + 1≤j by omega) (by omega) fun m y' a b => hnw m y' (by omega) (by omega)
       rw [ht2]; simp; omega
      ·have hjw : ∀ m y',j + 1≤m→m < i→l[m]? = some y'→isW y'.op = false:=by
        intro m y' hjm hmi hy'
        cases hwy' : isW y'.op with
        | false => rfl
        | true => exact absurd ⟨hwy',hsn,hw⟩ (hfree.pair m i y' io hmi hy' hio).2
       obtain ⟨⟨t2,ht2⟩,_⟩:=ZiR hs (show j + 1≤i by omega) (by omega) hjw
       have : (M i).b.length = (M (j + 1)).b.length + t2.length:=by rw [ht2]; simp
       omega
   | false =>
    obtain ⟨rfl,rfl⟩:=ZiA hsn hq
    rw [Zsk (h2:=(M k).mem) (p2:=0) hsn] at hq
    refine .inl (Zlc (q_ok (I.L ▸ hL) I.env I.hr (fun _ _ q => q) I.g (I.L ▸ hF) c1 hq (fun x hx => by cases hx) (fun q => absurd rfl q) (fun b hb => by cases hb)) ?_)
    rintro u w' ⟨S',rfl,ok,hv,hid⟩
    refine hK S' u k ok.le ok.below (stageQ hw ok.le hv ok.hr ?_)
    intro j y hy hsy hwy hji hlj hlen
    rw [hid _ (.inl rfl)]
    exact I.ids j y hy hsy hwy hlj hlen
 ·have hwant:=ZkU I.env c2 (hgv.trans hg)
  rw [hwant]
  simp only [Bool.false_eq_true,if_false]
  have hv : Rel S (V i) undef:=by rw [hv0]; simp [Rel,undef,RelL]
  cases hw : isW io.op with
  | true =>
   refine hK S undef (i + 1) (.refl S) (.refl _ _) (stageW hw (.refl S) hv ?_)
   rw [hm0,(hMk hw).2]; exact I.hr
  | false =>
   exact hK S undef k (.refl S) (.refl _ _) (stageQ hw (.refl S) hv I.hr fun j y hy hsy hwy hji hlj hlen => I.ids j y hy hsy hwy hlj hlen)
end
end Go.Cv
namespace Go.Cv
section
variable {C : CC} {A : Nat→Prop} {n0 : Nat} {G : Nat→Option (List AV)} {F : CallF} {ops : Array Oper} {l : List IOper}
theorem Zok (a : Act) (d : Option Tmp) (u : Value) : (a.put d u).defers = a.defers:=by cases d <;> rfl
theorem ZeS {listed : Array Bool} (hsz : listed.size = ops.size) {i : Nat} :
  i ∈ Region.ready .any ops listed↔i < ops.size∧listed.getD i false = false∧∀ o,ops[i]? = some o→∀ e ∈ o.after,Region.binds .any e = true→listed.getD e.on false = true:=by
 unfold Region.ready
 rw [List.mem_filter,List.mem_range]
 constructor
 ·rintro ⟨hi,h⟩
  simp only [Bool.and_eq_true,Bool.not_eq_true'] at h
  obtain ⟨h1,h2⟩:=h
  refine ⟨hi,?_,fun o ho e he hb => ?_⟩
  ·rw [Array.getD_eq_getD_getElem?] at h1 ⊢
   rw [Array.getElem?_eq_getElem (by omega)] at h1 ⊢
   exact h1
  ·rw [ho] at h2
   simp only [Option.map_some,Option.getD_some] at h2
   have:=Array.all_eq_true_iff_forall_mem.1 h2 e he
   simpa [hb] using this
 ·rintro ⟨hi,h1,h2⟩
  refine ⟨hi,?_⟩
  simp only [Bool.and_eq_true,Bool.not_eq_true']
  refine ⟨?_,?_⟩
  ·rw [Array.getD_eq_getD_getElem?] at h1 ⊢
   rw [Array.getElem?_eq_getElem (by omega)] at h1 ⊢
   exact h1
  ·rw [Array.getElem?_eq_getElem hi]
   simp only [Option.map_some,Option.getD_some]
   refine Array.all_eq_true_iff_forall_mem.2 fun e he => ?_
   cases hb : Region.binds .any e with
   | false => rfl
   | true => simpa using h2 _ (Array.getElem?_eq_getElem hi) e he hb
def left (n : Nat) (ls : Nat→Bool) : Nat:=((List.range n).filter fun i => !ls i).length
theorem ZoX {n : Nat} {ls : Nat→Bool} {i : Nat} (hi : i < n) (hu : ls i = false) : left n (ins ls i) + 1≤left n ls:=by
 unfold left
 induction n with
 | zero => omega
 | succ n ih =>
  rw [List.range_succ,List.filter_append,List.filter_append,List.length_append,List.length_append]
  by_cases h : i = n
  ·subst h
   have h1 : (List.filter (fun j => !ins ls i j) (List.range i)) = List.filter (fun j => !ls j) (List.range i):=List.filter_congr fun j hj => by
    have:=List.mem_range.1 hj
    unfold ins; rw [if_neg (by omega)]
   rw [h1]
   simp [ins,hu]
  ·have:=ih (by omega)
   have h2 : ins ls i n = ls n:=by unfold ins; rw [if_neg (fun q => h q.symm)]
   simp only [List.filter_cons,h2,List.filter_nil]
   omega
theorem ZHU (hl : mapO (compOper C ops) ops.toList = some l) {E : Nat→Env} (hfree : Free ops l E) {M : Nat→Heap} {V : Nat→AV} (hs : Seq G F l E M V) {L : Nat→Option FuncId} (hL : Link C L) (hF : CallsOK C.P L G F)
  {Q : Exit→Act→World→Prop} {S0 : Sc} {df : List Deferred} (hQ : ∀ a' S',Ok A n0 S0 S' (M l.length).mem (M l.length).fz→EnvR S' C.N (E l.length) a'→a'.defers = df→Q .normal a' S'.w) :
  ∀ (fuel : Nat) (listed : Array Bool) (S : Sc) (a : Act) (k : Nat),listed.size = ops.size→left ops.size (fun i => listed.getD i false)≤fuel →
   Inv C A n0 ops l E M V L G (fun i => listed.getD i false) S a k→S0.Le S→Go.RowKit.Below n0 S0.w S.w→a.defers = df→wpAny C.P .any ops Q fuel listed a S.w:=by
 have hll : l.length = ops.size:=by rw [ZdM hl]; simp
 have done : ∀ (listed : Array Bool) (S : Sc) (a : Act) (k : Nat),listed.size = ops.size→Region.ready .any ops listed = [] →
   Inv C A n0 ops l E M V L G (fun i => listed.getD i false) S a k→S0.Le S→Go.RowKit.Below n0 S0.w S.w→a.defers = df→Q .normal a S.w:=by
  intro listed S a k hsz hr I hle hbe hdf
  have all : ∀ i,i < ops.size→listed.getD i false = true:=by
   intro i
   induction i using Nat.strongRecOn with
   | _ i ih =>
    intro hi
    cases hli : listed.getD i false with
    | true => rfl
    | false =>
     have : i ∈ Region.ready .any ops listed:=(ZeS hsz).2 ⟨hi,hli,fun o ho e he hb => ih e.on (hfree.back i o ho e he hb) (by have:=hfree.back i o ho e he hb; omega)⟩
     rw [hr] at this; cases this
  have hM : M l.length = M k:=ZsU hs I.le (Nat.le_refl _) fun j y hkj hj hy => by
   cases hsy : sens y.op with
   | false => rfl
   | true =>
    exfalso
    cases hwy : isW y.op with
    | true => have:=(I.wr j y hy hwy).1 (all j (by omega)); omega
    | false => have:=I.qu j y hy hsy hwy; omega
  refine hQ a S ⟨hle,by rw [hM]; exact I.hr,hbe⟩ ⟨I.env.size,fun t => ?_⟩ hdf
  have:=I.env.get t
  rwa [Zsm hs (Nat.le_refl _) fun j hj _ _ _ => all j (by omega)] at this
 have step : ∀ (fuel : Nat) (listed : Array Bool) (S : Sc) (a : Act) (k : Nat),listed.size = ops.size→left ops.size (fun i => listed.getD i false)≤fuel + 1 →
   Inv C A n0 ops l E M V L G (fun i => listed.getD i false) S a k→S0.Le S→Go.RowKit.Below n0 S0.w S.w→a.defers = df →
   (∀ (listed' : Array Bool) (S' : Sc) (a' : Act) (k' : Nat),listed'.size = ops.size→left ops.size (fun i => listed'.getD i false)≤fuel →
    Inv C A n0 ops l E M V L G (fun i => listed'.getD i false) S' a' k'→S0.Le S'→Go.RowKit.Below n0 S0.w S'.w→a'.defers = df→wpAny C.P .any ops Q fuel listed' a' S'.w) →
   ∀ i ∈ Region.ready .any ops listed,wpOp C.P ops Q i (wpAny C.P .any ops Q fuel (listed.setIfInBounds i true)) a S.w:=by
  intro fuel listed S a k hsz hfu I hle hbe hdf ih i hi
  obtain ⟨h1,h2,h3⟩:=(ZeS hsz).1 hi
  refine ZCv hl hfree hs hL hF I (by omega) h2 h3 fun S' u k' le be I' => ?_
  have hfn : (fun j => (listed.setIfInBounds i true).getD j false) = ins (fun j => listed.getD j false) i:=by
   funext j
   unfold ins
   by_cases hj : j = i
   ·subst hj
    rw [if_pos rfl,Array.getD_eq_getD_getElem?,Array.getElem?_setIfInBounds_self_of_lt (by omega)]; rfl
   ·rw [if_neg hj,Array.getD_eq_getD_getElem?,Array.getElem?_setIfInBounds_ne (fun q => hj q.symm),← Array.getD_eq_getD_getElem?]
  refine ih _ S' _ k' (by simpa using hsz) ?_ (by rw [hfn]; exact I') (hle.trans le) (hbe.trans be) (by rw [Zok]; exact hdf)
  rw [hfn]
  have:=ZoX (ls:=fun j => listed.getD j false) h1 h2
  omega
 intro fuel
 induction fuel with
 | zero =>
  intro listed S a k hsz hfu I hle hbe hdf
  have hr : Region.ready .any ops listed = []:=by
   apply List.eq_nil_iff_forall_not_mem.2
   intro i hi
   obtain ⟨h1,h2,h3⟩:=(ZeS hsz).1 hi
   have:=ZoX (ls:=fun j => listed.getD j false) h1 h2
   omega
  exact ⟨hr,done listed S a k hsz hr I hle hbe hdf⟩
 | succ fuel ih =>
  intro listed S a k hsz hfu I hle hbe hdf
  exact ⟨fun hr => done listed S a k hsz hr I hle hbe hdf,step fuel listed S a k hsz hfu I hle hbe hdf ih⟩
theorem ZFk (hm : C.P.follows .mixedOrders = true) (hl : mapO (compOper C ops) ops.toList = some l) {chk : List (Nat × Nat)} (hdr : drawOk ops l chk = true) {S : Sc} (hL : Link C S.L) (hF : CallsOK C.P S.L G F) {Q : Exit→Act→World→Prop} {h h' : Heap} {e e' : Env} {a : Act} {id : Nat}
  (hev : evOps G F l e h = some (e',h')) (hchk : chkOk e' l chk = true) (hE : EnvR S C.N e a) (H : HR A n0 S h.mem h.fz) (hG : Gok G S)
  (hQ : ∀ a' S',Ok A n0 S S' h'.mem h'.fz→EnvR S' C.N e' a'→a'.defers = a.defers→Q .normal a' S'.w) : (Code.region id ops true).wp C.P Q a S.w:=by
 refine wp_region_any hm ?_
 obtain ⟨E,M,V,hE0,hM0,hEn,hMn,hs⟩:=ZEt hev
 have hll : l.length = ops.size:=by rw [ZdM hl]; simp
 have hfree:=ZEV hdr hs (by rw [hEn]; exact hchk)
 have dr:=Ok.drew H
 -- the first write
 obtain ⟨k,hkl,hk1,hk2⟩ : ∃ k,k≤l.length∧(∀ j io,j < k→l[j]? = some io→isW io.op = false)∧(∀ io,l[k]? = some io→isW io.op = true):=by
  have : ∀ (l : List IOper),∃ k,k≤l.length∧(∀ (j : Nat) (io : IOper),j < k→l[j]? = some io→isW io.op = false)∧(∀ (io : IOper),l[k]? = some io→isW io.op = true):=by
   intro l
   induction l with
   | nil => exact ⟨0,Nat.le_refl _,fun j io hj => by omega,fun io hio => by simp at hio⟩
   | cons x l ih =>
    cases hx : isW x.op with
    | true => exact ⟨0,by simp,fun j io hj => by omega,fun io hio => by simp at hio; subst hio; exact hx⟩
    | false =>
     obtain ⟨k,h1,h2,h3⟩:=ih
     refine ⟨k + 1,by simpa using h1,fun j io hj hio => ?_,fun io hio => h3 io (by simpa using hio)⟩
     cases j with
     | zero => simp at hio; subst hio; exact hx
     | succ j => exact h2 j io (by omega) (by simpa using hio)
  exact this l
 obtain ⟨⟨t,ht⟩,hf⟩:=ZiR hs (Nat.zero_le k) hkl fun j io _ hj hio => hk1 j io hj hio
 have hS : (S.at S.w.drew).w = S.w.drew:=rfl
 have hls : (fun i => (Array.replicate ops.size false).getD i false) = fun _ => false:=by
  funext i
  rw [Array.getD_eq_getD_getElem?,Array.getElem?_replicate]
  split <;> rfl
 have hsel : selE l V (fun _ => false) (E 0) l.length = E 0:=by
  generalize l.length = n
  induction n with
  | zero => rfl
  | succ n ih => simp only [selE]; exact ih
 have I : Inv C A n0 ops l E M V S.L G (fun i => (Array.replicate ops.size false).getD i false) (S.at S.w.drew) a k:=by
  rw [hls]
  refine ⟨fun i hi => Bool.noConfusion hi,rfl,?_,hkl,?_,?_,?_,?_,hG.mono dr.le⟩
  ·rw [hsel,hE0]; exact hE.mono dr.le
  ·refine dr.hr.ext (fun b i hi => ?_) (fun b hb => hf b (by rw [hM0]; exact hb))
   obtain ⟨x,hx⟩:=dr.hr.dom b i hi
   show (M k).b[b]? = h.b[b]?
   rw [ht,hM0,List.getElem?_append_left (List.getElem?_eq_some_iff.1 hx).1]
  ·intro i io hio hw
   refine ⟨fun q => Bool.noConfusion q,fun _ => ?_⟩
   rcases Nat.lt_or_ge i k with q | q
   ·rw [hk1 i io q hio] at hw; cases hw
   ·exact q
  ·intro i io hio hsn hw
   rcases Nat.lt_or_ge i k with q | q
   ·exact q
   ·exfalso
    have hlt:=(List.getElem?_eq_some_iff.1 hio).1
    have hk:=hk2 l[k] (List.getElem?_eq_getElem (by omega))
    rcases Nat.lt_or_ge k i with r | r
    ·exact (hfree.pair k i l[k] io r (List.getElem?_eq_getElem (by omega)) hio).2 ⟨hk,hsn,hw⟩
    ·have : k = i:=by omega
     subst this
     rw [hk2 io hio] at hw; cases hw
  ·intro i io hio hsn hw _ hlen
   have hik : i≤k:=by
    rcases Nat.lt_or_ge k i with q | q
    ·have hlt:=(List.getElem?_eq_some_iff.1 hio).1
     exact absurd ⟨hk2 l[k] (List.getElem?_eq_getElem (by omega)),hsn,hw⟩ (hfree.pair k i l[k] io q (List.getElem?_eq_getElem (by omega)) hio).2
    ·exact q
   obtain ⟨⟨t2,ht2⟩,_⟩:=ZiR hs (Nat.zero_le i) (by omega) fun j io _ hj hio => hk1 j io (by omega) hio
   exact ZnL dr.hr (by rw [ht2,hM0]; simp)
 have hdone:=ZHU hl hfree hs hL hF (S0:=S.at S.w.drew) (df:=a.defers) (Q:=Q) (fun a' S' ok hE' hd => hQ a' S' (dr.trans (by rw [hMn] at ok; exact ok)) (by rw [hEn] at hE'; exact hE') hd)
  ops.size (Array.replicate ops.size false) (S.at S.w.drew) a k (by simp) (by unfold left; exact Nat.le_trans (List.length_filter_le _ _) (by simp)) I (.refl _) (.refl _ _) rfl
 exact hdone
end
end Go.Cv
namespace Go.Cv
def exOf : Ex→Exit
 | .norm => .normal
 | .ret => .ret
 | .exit id => .exit id
theorem ZzH (l : List Nat) (e : Env) (t : Nat) : getE (keepE l e) t = if t ∈ l then getE e t else .undef:=by
 unfold keepE
 induction l with
 | nil => simp [getE]
 | cons x l ih =>
  simp only [List.map_cons,getE,ih,List.mem_cons]
  by_cases h : t = x
  ·subst h; simp
  ·simp [h]
theorem ZpX {S : Sc} {N : Nat} {e : Env} {a : Act} (h : EnvR S N e a) (l : List Nat) : EnvR S N (keepE l e) a :=
 ⟨h.size,fun t => by
  rw [ZzH]
  split
  ·exact h.get t
  ·simp [Rel]⟩
section
variable {C : CC} {A : Nat→Prop} {n0 : Nat} {G : Nat→Option (List AV)} {F : CallF} {ops : Array Oper} {l : List IOper}
theorem ZxY {α : Type} {a b : Option α} {r : α} (h : bothO a b = some r) : a = some r∧b = some r:=by
 unfold bothO at h
 cases a with
 | none => cases h
 | some x =>
  cases b with
  | none => cases h
  | some y =>
   simp only [Option.bind_some] at h
   split at h
   ·next q => subst q; exact ⟨h,h⟩
   ·cases h
theorem Zxi {fin : Env→Heap→Option (Env × Heap)} {e : Env} {h : Heap} {r : Env × Heap} : ∀ {ts : List OT},evT G F l fin (altT ts) e h = some r→∀ t ∈ ts,evT G F l fin t e h = some r
 | [],_,t,ht => by cases ht
 | [x],hr,t,ht => by
  have : t = x:=by simpa using ht
  subst this
  simpa only [altT] using hr
 | x :: y :: ts,hr,t,ht => by
  simp only [altT,evT] at hr
  obtain ⟨h1,h2⟩:=ZxY hr
  rcases List.mem_cons.1 ht with rfl | ht
  ·exact h1
  ·exact Zxi h2 t ht
structure TFree (ops : Array Oper) (l : List IOper) : Prop where
 back : ∀ i o,ops[i]? = some o→∀ e ∈ o.after,Region.binds .any e = true→e.on < i
 ssa : ∀ (i j : Nat) (x y : IOper) (d : Nat),l[i]? = some x→l[j]? = some y→x.dst = some d→(d ∈ readsOf y→((Region.before ops).getD j 0).testBit i = true)∧(i≠j→y.dst≠some d)
 noc : ∀ (i : Nat) (x : IOper),l[i]? = some x→callT x.op = false
theorem ZBL (h : treeOk ops l = true) : TFree ops l:=by
 unfold treeOk at h
 simp only [Bool.and_eq_true,List.all_eq_true,List.mem_range] at h
 obtain ⟨⟨h1,h2⟩,_⟩:=h
 have lt : ∀ {i : Nat} {x : IOper},l[i]? = some x→i < l.length:=fun h => (List.getElem?_eq_some_iff.1 h).1
 refine ⟨fun i o ho e he hb => ?_,fun i j x y d hx hy hd => ?_,fun i x hx => ?_⟩
 ·have hlt : i < ops.size:=by
   rcases Nat.lt_or_ge i ops.size with q | q
   ·exact q
   ·simp [Array.getElem?_eq_none q] at ho
  have:=h1 i hlt
  rw [ho] at this
  have:=List.all_eq_true.1 this e (by simpa using he)
  simpa [hb] using this
 ·have:=h2 j (lt hy) i (lt hx)
  rw [hx,hy] at this
  simp only [hd,Bool.and_eq_true,Bool.or_eq_true,Bool.not_eq_true',beq_iff_eq,bne_iff_ne,ne_eq] at this
  obtain ⟨⟨a,b⟩,_⟩:=this
  refine ⟨fun hm => ?_,fun hne => b.resolve_left hne⟩
  rcases a with a | a
  ·rw [List.contains_iff_mem.2 hm] at a; cases a
  ·exact a
 ·have:=h2 i (lt hx) i (lt hx)
  rw [hx] at this
  simp only [Bool.and_eq_true,Bool.not_eq_true'] at this
  exact this.2
theorem Znx {io : IOper} (h : eagerI io = true) : io.guard = none∧isW io.op = false∧∀ (G : Nat→Option (List AV)) (F : CallF) (e : Env) (h h2 : Mem) (p : Nat),evQ G F e h p io.op = evQ G F e h2 p io.op∧∀ v δ fr,evQ G F e h p io.op = some (v,δ,fr)→fr = []:=by
 obtain ⟨d,op,g⟩:=io
 unfold eagerI at h
 simp only [Bool.and_eq_true] at h
 obtain ⟨h1,h2⟩:=h
 have hg : g = none:=by cases g <;> first | rfl | cases h1
 refine ⟨hg,?_,fun G F e h h2' p => ?_⟩
 ·cases op <;> first | rfl | (simp at h2; done)
 ·by_cases hs : sens op = false
  ·exact ⟨Zsk hs,fun v δ fr q => (ZiA hs q).2⟩
  ·cases op <;> first | (exact absurd rfl hs; done) | (simp at h2; done) | refine ⟨rfl,fun v δ fr q => ?_⟩
   all_goals
    simp only [evQ] at q
    (repeat' split at q)
    all_goals first | (cases q; rfl) | (cases q; done)
theorem ZuH {io : IOper} (h : eagerI io = true) (hs : sens io.op = true) {G : Nat→Option (List AV)} {F : CallF} {e : Env} {m : Mem} {p : Nat} {v : AV} {δ : List Blk} {fr : List Nat} (q : evQ G F e m p io.op = some (v,δ,fr)) : δ≠[]:=by
 obtain ⟨d,op,g⟩:=io
 unfold eagerI at h
 simp only [Bool.and_eq_true] at h
 obtain ⟨_,h2⟩:=h
 cases op <;> first | (simp [sens] at hs; done) | (simp at h2; done) | skip
 all_goals
  simp only [evQ] at q
  (repeat' split at q)
  all_goals first | (cases q; simp; done) | (cases q; done)
structure TInv (C : CC) (A : Nat→Prop) (n0 : Nat) (G : Nat→Option (List AV)) (F : CallF) (ops : Array Oper) (l : List IOper) (L : Nat→Option FuncId) (pn : Nat→Option Nat) (tr ms : Nat→Bool) (e : Env) (h : Heap) (S : Sc) (a : Act) : Prop where
 sub : ∀ i,ms i = true→tr i = true
 ct : Closed ops tr
 cm : Closed ops ms
 L : S.L = L
 size : C.N≤a.tmps.size
 env : ∀ t,(∀ j io,l[j]? = some io→tr j = true→ms j = false→io.dst≠some t)→Rel S (getE e t) (a.tmps.getD t undef)
 pend : ∀ j io,l[j]? = some io→tr j = true→ms j = false→eagerI io = true∧∃ v δ,(∀ t,io.dst = some t→getE e t = v)∧evQ G F e h.mem ((pn j).getD 0) io.op = some (v,δ,[])∧∀ x ∈ δ,∃ p,pn j = some p∧h.mem p = some x∧S.ι p = none
 dis : ∀ i j p,tr i = true→ms i = false→tr j = true→ms j = false→i≠j→pn i = some p→pn j≠some p
 low : ∀ i p,tr i = true→ms i = false→pn i = some p→p < h.b.length
 hr : HR A n0 S h.mem h.fz
 g : Gok G S
def maskE (X : List Nat) (e : Env) : Env:=X.map (fun t => (t,AV.undef)) ++ e
theorem Zuc (X : List Nat) (e : Env) (t : Nat) : getE (maskE X e) t = if t ∈ X then .undef else getE e t:=by
 unfold maskE
 induction X with
 | nil => simp
 | cons x X ih =>
  simp only [List.map_cons,List.cons_append,getE,ih,List.mem_cons]
  by_cases h : t = x
  ·subst h; simp
  ·simp [h]
theorem TInv.mask {L : Nat→Option FuncId} {pn : Nat→Option Nat} {tr ms : Nat→Bool} {e : Env} {h : Heap} {S : Sc} {a : Act} (I : TInv C A n0 G F ops l L pn tr ms e h S a) :
  ∃ em,EnvR S C.N em a∧∀ t,(∀ j io,l[j]? = some io→tr j = true→ms j = false→io.dst≠some t)→getE em t = getE e t:=by
 have hX : ∀ t,t ∈ ((List.range l.length).filterMap fun j => if tr j && !ms j then (l[j]?).bind (·.dst) else none)↔∃ j io,l[j]? = some io∧tr j = true∧ms j = false∧io.dst = some t:=by
  intro t
  rw [List.mem_filterMap]
  constructor
  ·rintro ⟨j,hj,hd⟩
   split at hd
   ·next q =>
    simp only [Bool.and_eq_true,Bool.not_eq_true'] at q
    cases hio : l[j]? with
    | none => rw [hio] at hd; cases hd
    | some io => rw [hio] at hd; exact ⟨j,io,hio,q.1,q.2,hd⟩
   ·cases hd
  ·rintro ⟨j,io,hio,h1,h2,h3⟩
   exact ⟨j,List.mem_range.2 (List.getElem?_eq_some_iff.1 hio).1,by rw [h1,h2,hio]; exact h3⟩
 refine ⟨maskE ((List.range l.length).filterMap fun j => if tr j && !ms j then (l[j]?).bind (·.dst) else none) e,⟨I.size,fun t => ?_⟩,fun t ht => ?_⟩
 ·rw [Zuc]
  split
  ·simp [Rel]
  ·next q => exact I.env t fun j io h1 h2 h3 h4 => q ((hX t).2 ⟨j,io,h1,h2,h3,h4⟩)
 ·rw [Zuc,if_neg]
  intro q
  obtain ⟨j,io,h1,h2,h3,h4⟩:=(hX t).1 q
  exact ht j io h1 h2 h3 h4
theorem TInv.reads (hfree : TFree ops l) {L : Nat→Option FuncId} {pn : Nat→Option Nat} {tr ms : Nat→Bool} {e : Env} {h : Heap} {S : Sc} {a : Act} (I : TInv C A n0 G F ops l L pn tr ms e h S a) {i : Nat} {io : IOper} (hio : l[i]? = some io)
  (hrd : ∀ o,ops[i]? = some o→∀ e ∈ o.after,Region.binds .any e = true→ms e.on = true) : ∀ t ∈ readsOf io,∀ j y,l[j]? = some y→tr j = true→ms j = false→y.dst≠some t:=by
 intro t ht j y hy h1 h2 hd
 have:=Zfj ((hfree.ssa j i y io t hy hio hd).1 ht) I.cm hrd
 rw [h2] at this; cases this
theorem ZvP (a : Act) (d : Option Tmp) (u : Value) : (a.put d u).tmps.size = a.tmps.size:=Zwm
theorem Zzl {a : Act} {N : Nat} (hN : N≤a.tmps.size) {d : Option Nat} (hd : ∀ t,d = some t→t < N) (u : Value) (t : Nat) : (a.put d u).tmps.getD t undef = if d = some t then u else a.tmps.getD t undef:=by
 cases d with
 | none => simp [Act.put]
 | some s =>
  have hs:=hd s rfl
  simp only [Act.put]
  by_cases h : s = t
  ·subst h
   rw [if_pos rfl,Array.getD_eq_getD_getElem?,Array.getElem?_setIfInBounds_self_of_lt (Nat.lt_of_lt_of_le hs hN)]; rfl
  ·rw [if_neg (by simpa using h),Array.getD_eq_getD_getElem?,Array.getElem?_setIfInBounds_ne h,← Array.getD_eq_getD_getElem?]
theorem TInv.early (hfree : TFree ops l) {L : Nat→Option FuncId} {pn : Nat→Option Nat} {tr ms : Nat→Bool} {e e1 : Env} {h h1 : Heap} {S : Sc} {a : Act} (I : TInv C A n0 G F ops l L pn tr ms e h S a) {j : Nat} {io : IOper} (hio : l[j]? = some io) (hun : tr j = false)
  (hrd : ∀ o,ops[j]? = some o→∀ e ∈ o.after,Region.binds .any e = true→tr e.on = true) (hea : eagerI io = true) (hev : evOps G F [io] e h = some (e1,h1)) :
  TInv C A n0 G F ops l L (fun k => if k = j then (if sens io.op then some h.b.length else none) else pn k) (ins tr j) ms e1 h1 S a:=by
 obtain ⟨hg,hw,hm⟩:=Znx hea
 have hmj : ms j = false:=by
  cases q : ms j with
  | false => rfl
  | true => rw [I.sub j q] at hun; cases hun
 simp only [evOps,hg,guardV] at hev
 split at hev
 ·next v h' hop =>
  simp only [Option.some.injEq,Prod.mk.injEq] at hev
  obtain ⟨rfl,rfl⟩:=hev
  obtain ⟨δ,fr,hq,hb,hf⟩:=Zfx hw hop
  have hfr:=(hm G F e h.mem h.mem h.b.length).2 v δ fr hq
  subst hfr
  have hold : ∀ b x,h.mem b = some x→h'.mem b = some x:=fun b x hx => by
   show h'.b[b]? = _
   rw [hb,List.getElem?_append_left (List.getElem?_eq_some_iff.1 hx).1]; exact hx
  have insj : ∀ k,k≠j→ins tr j k = tr k:=fun k hk => by unfold ins; rw [if_neg hk]
  -- its slot isn't looked at by what was done,nor written
  have hnr : ∀ k y,l[k]? = some y→(k = j∨tr k = true)→∀ d,io.dst = some d→d ∉ readsOf y:=by
   intro k y hy hk d hd hr
   have hb':=(hfree.ssa j k io y d hio hy hd).1 hr
   rcases hk with rfl | hk
   ·have:=Zfj hb' I.ct hrd
    rw [hun] at this; cases this
   ·have:=Zfj hb' I.ct fun o ho e he hbd => I.ct k hk o ho e he hbd
    rw [hun] at this; cases this
  have hcongr : ∀ k y (m : Mem) (p : Nat),l[k]? = some y→(k = j∨tr k = true)→evQ G F (putE io.dst v e) m p y.op = evQ G F e m p y.op:=fun k y m p hy hk => ZkW fun t ht => by
   rw [ZbC,if_neg]
   intro hd
   exact hnr k y hy hk t hd (List.mem_append_left _ ht)
  have mono : h.b.length≤h'.b.length:=by rw [hb,List.length_append]; omega
  refine ⟨fun i hi => ?_,Zgm I.ct hrd,I.cm,I.L,I.size,fun t ht => ?_,fun k y hy hk hmk => ?_,fun i k p hi hmi hk hmk hik hp => ?_,fun i p hi hmi hp => ?_,?_,I.g⟩
  ·unfold ins; split
   ·rfl
   ·exact I.sub i hi
  ·rw [ZbC,if_neg (fun q => ht j io hio (by unfold ins; rw [if_pos rfl]) hmj q)]
   refine I.env t fun k y hy hk hmk => ht k y hy ?_ hmk
   unfold ins; split
   ·rfl
   ·exact hk
  ·by_cases hkj : k = j
   ·subst hkj
    rw [hio] at hy; cases hy
    refine ⟨hea,v,δ,fun t ht => by rw [ZbC,if_pos ht],?_,fun x hx => ?_⟩
    ·rw [if_pos rfl,hcongr k io _ _ hio (.inl rfl)]
     by_cases hs : sens io.op = true
     ·rw [if_pos hs,Option.getD_some,(hm G F e h'.mem h.mem h.b.length).1]; exact hq
     ·rw [Zsk (h2:=h.mem) (p2:=h.b.length) (by simpa using hs)]; exact hq
    ·have hs : sens io.op = true:=by
      cases q : sens io.op with
      | true => rfl
      | false => rw [(ZiA q hq).1] at hx; cases hx
     refine ⟨h.b.length,by rw [if_pos rfl,if_pos hs],?_,ZnL I.hr (Nat.le_refl _)⟩
     show h'.b[h.b.length]? = _
     rw [hb]
     rcases ZnY hq with rfl | ⟨y,rfl⟩
     ·cases hx
     ·simp at hx; subst hx; simp
   ·rw [insj k hkj] at hk
    obtain ⟨he,v',δ',p1,p2,p3⟩:=I.pend k y hy hk hmk
    refine ⟨he,v',δ',fun t ht => ?_,?_,fun x hx => ?_⟩
    ·rw [ZbC,if_neg (fun q => (hfree.ssa j k io y t hio hy q).2 (fun r => hkj r.symm) ht)]; exact p1 t ht
    ·rw [if_neg hkj,hcongr k y _ _ hy (.inr hk),((Znx he).2.2 G F e h'.mem h.mem _).1]; exact p2
    ·obtain ⟨p,q1,q2,q3⟩:=p3 x hx
     exact ⟨p,by rw [if_neg hkj]; exact q1,hold _ _ q2,q3⟩
  ·by_cases h1 : i = j
   ·subst h1
    rw [if_pos rfl] at hp
    rw [if_neg (fun q => hik q.symm)]
    rw [insj k (fun q => hik q.symm)] at hk
    intro q
    have:=I.low k p hk hmk q
    split at hp
    ·cases hp; omega
    ·cases hp
   ·rw [if_neg h1] at hp
    rw [insj i h1] at hi
    by_cases h2 : k = j
    ·subst h2
     rw [if_pos rfl]
     intro q
     have:=I.low i p hi hmi hp
     split at q
     ·cases q; omega
     ·cases q
    ·rw [if_neg h2]
     rw [insj k h2] at hk
     exact I.dis i k p hi hmi hk hmk hik hp
  ·by_cases h1 : i = j
   ·subst h1
    rw [if_pos rfl] at hp
    split at hp
    ·next hs =>
     cases hp
     rw [hb]
     rcases ZnY hq with rfl | ⟨y,rfl⟩
     ·exact absurd rfl (ZuH hea hs hq)
     ·simp
    ·cases hp
   ·rw [if_neg h1] at hp
    rw [insj i h1] at hi
    exact Nat.lt_of_lt_of_le (I.low i p hi hmi hp) mono
  ·refine I.hr.ext (fun b i hi => ?_) (fun b hb' => ?_)
   ·obtain ⟨x,hx⟩:=I.hr.dom b i hi
    rw [hx]; exact hold b x hx
   ·show b ∈ h'.f
    rw [hf]; exact hb'
 ·cases hev
theorem TInv.late (hl : mapO (compOper C ops) ops.toList = some l) (hfree : TFree ops l) {L : Nat→Option FuncId} (hL : Link C L) (hF : CallsOK C.P L G F) {pn : Nat→Option Nat} {tr ms : Nat→Bool} {e : Env} {h : Heap} {S : Sc} {a : Act} (I : TInv C A n0 G F ops l L pn tr ms e h S a)
  {i : Nat} (hi : i < l.length) (htr : tr i = true) (hms : ms i = false) (hrd : ∀ o,ops[i]? = some o→∀ e ∈ o.after,Region.binds .any e = true→ms e.on = true) {Q : Exit→Act→World→Prop} {K : Act→World→Prop}
  (hK : ∀ (S' : Sc) (u : Value),S.Le S'→Go.RowKit.Below n0 S.w S'.w→TInv C A n0 G F ops l L pn tr (ins ms i) e h S' (a.put ((ops[i]?).bind (·.dst)) u)→K (a.put ((ops[i]?).bind (·.dst)) u) S'.w) :
  wpOp C.P ops Q i K a S.w:=by
 have hio : l[i]? = some l[i]:=List.getElem?_eq_getElem hi
 generalize hx : l[i] = io at hio
 obtain ⟨o,ho,hc⟩:=ZlJ hl i io hio
 rw [Array.getElem?_toList] at ho
 obtain ⟨c1,c2,c3,c4⟩:=ZgF hc
 have hdst : (ops[i]?).bind (·.dst) = o.dst:=by rw [ho]; rfl
 rw [hdst] at hK
 obtain ⟨hea,v,δ,p1,p2,p3⟩:=I.pend i io hio htr hms
 obtain ⟨hg,hw,hm⟩:=Znx hea
 obtain ⟨em,hE,hem⟩:=I.mask
 have hr:=I.reads hfree hio hrd
 have hq : evQ G F em h.mem ((pn i).getD 0) io.op = some (v,δ,[]):=by
  rw [ZkW (e':=e) fun t ht => hem t (hr t (List.mem_append_left _ ht))]; exact p2
 have hwant : Region.wanted o (yielded ops a.tmps) = true:=ZkU hE (g:=none) (by rw [← hg]; exact c2) rfl
 have insm : ∀ j,j≠i→ins ms i j = ms j:=fun j hj => by unfold ins; rw [if_neg hj]
 unfold wpOp
 rw [ho]
 simp only
 rw [hwant,if_pos rfl]
 refine .inl (Zlc (q_ok (I.L ▸ hL) hE I.hr (fun _ _ q => q) I.g (I.L ▸ hF) c1 hq (fun x hx => ?_) (fun hne => ?_) (fun b hb => by cases hb)) ?_)
 ·obtain ⟨p,q1,q2,_⟩:=p3 x hx
  rw [q1]; exact q2
 ·cases δ with
  | nil => exact absurd rfl hne
  | cons x xs =>
   obtain ⟨p,q1,_,q3⟩:=p3 x (List.mem_cons_self ..)
   rw [q1]; exact q3
 ·rintro u w' ⟨S',rfl,ok,hv,hid⟩
  refine hK S' u ok.le ok.below ⟨fun j hj => ?_,I.ct,Zgm I.cm hrd,ok.le.L.trans I.L,?_,fun t ht => ?_,fun j y hy hj hmj => ?_,fun j k p hj hmj hk hmk => ?_,fun j p hj hmj => ?_,ok.hr,I.g.mono ok.le⟩
  ·by_cases hji : j = i
   ·subst hji; exact htr
   ·rw [insm j hji] at hj; exact I.sub j hj
  ·rw [ZvP]; exact I.size
  ·rw [← c3,Zzl I.size c4]
   by_cases hd : io.dst = some t
   ·rw [if_pos hd,p1 t hd]; exact hv
   ·rw [if_neg hd]
    refine (I.env t fun j y hy hj hmj => ?_).mono ok.le
    by_cases hji : j = i
    ·subst hji; rw [hio] at hy; cases hy; exact hd
    ·exact ht j y hy hj (by rw [insm j hji]; exact hmj)
  ·have hji : j≠i:=fun q => by subst q; unfold ins at hmj; rw [if_pos rfl] at hmj; cases hmj
   rw [insm j hji] at hmj
   obtain ⟨k1,v',δ',k2,k3,k4⟩:=I.pend j y hy hj hmj
   refine ⟨k1,v',δ',k2,k3,fun x hx => ?_⟩
   obtain ⟨p,q1,q2,q3⟩:=k4 x hx
   refine ⟨p,q1,q2,?_⟩
   rw [hid p ?_]; exact q3
   cases δ with
   | nil => exact .inl rfl
   | cons z zs =>
    obtain ⟨p',r1,_,_⟩:=p3 z (List.mem_cons_self ..)
    right
    rw [r1,Option.getD_some]
    intro he
    subst he
    exact I.dis j i p hj hmj htr hms hji q1 r1
  ·have hji : j≠i:=fun q => by subst q; unfold ins at hmj; rw [if_pos rfl] at hmj; cases hmj
   have hki : k≠i:=fun q => by subst q; unfold ins at hmk; rw [if_pos rfl] at hmk; cases hmk
   rw [insm j hji] at hmj
   rw [insm k hki] at hmk
   exact I.dis j k p hj hmj hk hmk
  ·have hji : j≠i:=fun q => by subst q; unfold ins at hmj; rw [if_pos rfl] at hmj; cases hmj
   rw [insm j hji] at hmj
   exact I.low j p hj hmj
theorem ZxW {op : Op} {io : IOp} (h : compOp C op = some io) : (∀ n a v,io = .store n a v→∃ x,compOpd C x = some a)∧∀ sz b x y,io = .app sz b x y→∃ z,compOpd C z = some x:=by
 cases op <;> simp only [compOp,reduceCtorEq,Option.map_eq_some_iff] at h
 case store t x y =>
  split at h
  ·next inf x' y' hi hx hy =>
   cases h
   exact ⟨fun n a v q => (by cases q; exact ⟨x,hx⟩),fun _ _ _ _ q => (by cases q)⟩
  ·cases h
 case call c =>
  obtain ⟨callee,args,argTypes⟩:=c
  cases callee with
  | invoke r m => simp at h
  | builtin b =>
   cases b <;> simp only [reduceCtorEq] at h
   case append =>
    split at h
    ·split at h
     ·next el el' x' y' ht ht' hx hy =>
      split at h
      ·split at h
       ·cases h
       ·cases h
        exact ⟨fun _ _ _ q => (by cases q),fun _ _ _ _ q => (by cases q; exact ⟨_,hx⟩)⟩
      ·cases h
     ·cases h
    ·cases h
   all_goals
    (repeat' split at h)
    all_goals first
     | (obtain ⟨_,_,rfl⟩:=h; exact ⟨fun _ _ _ q => (by cases q),fun _ _ _ _ q => (by cases q)⟩)
     | (simp only [Option.map_eq_some_iff] at h; obtain ⟨_,_,rfl⟩:=h; exact ⟨fun _ _ _ q => (by cases q),fun _ _ _ _ q => (by cases q)⟩)
     | (cases h; exact ⟨fun _ _ _ q => (by cases q),fun _ _ _ _ q => (by cases q)⟩)
     | (cases h; done)
  | value f =>
   simp only at h
   (repeat' split at h)
   all_goals first
    | (cases h; exact ⟨fun _ _ _ q => (by cases q),fun _ _ _ _ q => (by cases q)⟩)
    | (cases h; done)
 all_goals
  (repeat' split at h)
  all_goals first
   | contradiction
   | (obtain ⟨_,_,rfl⟩:=h; exact ⟨fun _ _ _ q => (by cases q),fun _ _ _ _ q => (by cases q)⟩)
   | (simp only [Option.map_eq_some_iff] at h; obtain ⟨_,_,rfl⟩:=h; exact ⟨fun _ _ _ q => (by cases q),fun _ _ _ _ q => (by cases q)⟩)
   | (cases h; exact ⟨fun _ _ _ q => (by cases q),fun _ _ _ _ q => (by cases q)⟩)
   | (cases h; done)
theorem ZyF {em : Env} {h h1 : Heap} {S : Sc} {a : Act} {op : Op} {io : IOp} {v : AV} (hL : Link C S.L) (hE : EnvR S C.N em a) (hop : compOp C op = some io) (hc : callT io = false) (hev : evW G F em h io = some (v,h1)) :
  (∀ p,p < h.b.length→S.ι p = none→h1.mem p = h.mem p)∧h.b.length≤h1.b.length:=by
 obtain ⟨k1,k2⟩:=ZxW hop
 cases io <;> simp only [evW,reduceCtorEq] at hev
 case store n ax vx =>
  obtain ⟨x,hx⟩:=k1 n ax vx rfl
  have hr:=Zao hL hE hx
  split at hev
  ·next b off hb =>
   rw [hb] at hr
   obtain ⟨i,hi,_⟩:=ZvQ hr
   split at hev
   ·simp only [Option.map_eq_some_iff] at hev
    obtain ⟨h2,hwr,he⟩:=hev
    simp only [Prod.mk.injEq] at he
    obtain ⟨_,rfl⟩:=he
    unfold wrBlk at hwr
    split at hwr
    ·split at hwr
     ·simp only [Option.some.injEq] at hwr
      rw [← hwr]
      refine ⟨fun p hp hn => ?_,by simp⟩
      have hne : p≠b:=fun q => by rw [q,hi] at hn; cases hn
      show (List.set _ b _)[p]? = _
      rw [List.getElem?_set,if_neg (fun q => hne q.symm)]; rfl
     ·cases hwr
    ·cases hwr
   ·cases hev
  ·cases hev
 case app sz bytes x y =>
  obtain ⟨z,hz⟩:=k2 sz bytes x y rfl
  have hr:=Zao hL hE hz
  split at hev
  ·next m new hsl =>
   cases hxv : opd em x <;> rw [hxv] at hev hr <;> simp only [reduceCtorEq] at hev
   case nil =>
    split at hev
    ·simp only [Option.some.injEq,Prod.mk.injEq] at hev
     obtain ⟨_,rfl⟩:=hev
     exact ⟨fun _ _ _ => rfl,Nat.le_refl _⟩
    ·split at hev
     ·simp only [Option.some.injEq,Prod.mk.injEq] at hev
      obtain ⟨_,rfl⟩:=hev
      refine ⟨fun p hp _ => ?_,by simp⟩
      show (h.b ++ _)[p]? = h.b[p]?
      rw [List.getElem?_append_left hp]
     ·cases hev
   case own b off n s =>
    simp only [Rel] at hr
    obtain ⟨i,c,hi,_⟩:=hr
    split at hev
    ·split at hev
     ·simp only [Option.some.injEq,Prod.mk.injEq] at hev
      obtain ⟨_,rfl⟩:=hev
      refine ⟨fun p hp hn => ?_,by simp⟩
      have hne : p≠b:=fun q => by rw [q,hi] at hn; cases hn
      show (List.set h.b b _ ++ _)[p]? = h.b[p]?
      rw [List.getElem?_append_left (by simpa using hp),List.getElem?_set,if_neg (fun q => hne q.symm)]
     ·cases hev
    ·cases hev
  ·cases hev
 case call inl f as =>
  cases inl
  ·simp at hev
  ·simp [callT] at hc
theorem TInv.now (hl : mapO (compOper C ops) ops.toList = some l) (hfree : TFree ops l) {L : Nat→Option FuncId} (hL : Link C L) (hF : CallsOK C.P L G F) {pn : Nat→Option Nat} {tr ms : Nat→Bool} {e e1 : Env} {h h1 : Heap} {S : Sc} {a : Act} (I : TInv C A n0 G F ops l L pn tr ms e h S a)
  {i : Nat} {io : IOper} (hio : l[i]? = some io) (htr : tr i = false) (hrd : ∀ o,ops[i]? = some o→∀ e ∈ o.after,Region.binds .any e = true→ms e.on = true) (hev : evOps G F [io] e h = some (e1,h1)) {Q : Exit→Act→World→Prop} {K : Act→World→Prop}
  (hK : ∀ (S' : Sc) (u : Value),S.Le S'→Go.RowKit.Below n0 S.w S'.w→TInv C A n0 G F ops l L pn (ins tr i) (ins ms i) e1 h1 S' (a.put ((ops[i]?).bind (·.dst)) u)→K (a.put ((ops[i]?).bind (·.dst)) u) S'.w) :
  wpOp C.P ops Q i K a S.w:=by
 obtain ⟨o,ho,hc⟩:=ZlJ hl i io hio
 rw [Array.getElem?_toList] at ho
 obtain ⟨c1,c2,c3,c4⟩:=ZgF hc
 have hdst : (ops[i]?).bind (·.dst) = o.dst:=by rw [ho]; rfl
 rw [hdst] at hK
 have hms : ms i = false:=by
  cases q : ms i with
  | false => rfl
  | true => rw [I.sub i q] at htr; cases htr
 obtain ⟨em,hE,hem⟩:=I.mask
 have hr:=I.reads hfree hio hrd
 have hcg : ∀ t ∈ readsOf io,getE em t = getE e t:=fun t ht => hem t (hr t ht)
 have hgv : guardV em io.guard = guardV e io.guard:=by
  cases hgd : io.guard with
  | none => rfl
  | some p =>
   simp only [guardV]
   rw [hcg p.1 (by simp [readsOf,hgd])]
 have insm : ∀ j,j≠i→ins ms i j = ms j:=fun j hj => by unfold ins; rw [if_neg hj]
 have inst : ∀ j,j≠i→ins tr i j = tr j:=fun j hj => by unfold ins; rw [if_neg hj]
 have hrd' : ∀ o,ops[i]? = some o→∀ e ∈ o.after,Region.binds .any e = true→tr e.on = true:=fun o ho e he hb => I.sub _ (hrd o ho e he hb)
 have hnr : ∀ k y,l[k]? = some y→tr k = true→∀ d,io.dst = some d→d ∉ readsOf y:=by
  intro k y hy hk d hd hq
  have:=Zfj ((hfree.ssa i k io y d hio hy hd).1 hq) I.ct fun o ho e he hbd => I.ct k hk o ho e he hbd
  rw [htr] at this; cases this
 -- where we stand behind it
 have stage : ∀ (S' : Sc) (u : Value) (v : AV),S.Le S'→Rel S' v u→e1 = putE io.dst v e→HR A n0 S' h1.mem h1.fz→(∀ p x,p < h.b.length→S.ι p = none→h.mem p = some x→h1.mem p = some x∧S'.ι p = none)→h.b.length≤h1.b.length →
   TInv C A n0 G F ops l L pn (ins tr i) (ins ms i) e1 h1 S' (a.put o.dst u):=by
  intro S' u v hle hv he1 hh hkeep hlen
  subst he1
  have ne : ∀ j,ins tr i j = true→ins ms i j = false→j≠i∧tr j = true∧ms j = false:=fun j h1 h2 => by
   have hji : j≠i:=fun q => by subst q; unfold ins at h2; rw [if_pos rfl] at h2; cases h2
   rw [inst j hji] at h1
   rw [insm j hji] at h2
   exact ⟨hji,h1,h2⟩
  refine ⟨fun j hj => ?_,Zgm I.ct hrd',Zgm I.cm hrd,hle.L.trans I.L,?_,fun t ht => ?_,fun j y hy hj hmj => ?_,fun j k p hj hmj hk hmk hjk => ?_,fun j p hj hmj hp => ?_,hh,I.g.mono hle⟩
  ·by_cases hji : j = i
   ·subst hji; unfold ins; rw [if_pos rfl]
   ·rw [insm j hji] at hj; rw [inst j hji]; exact I.sub j hj
  ·rw [ZvP]; exact I.size
  ·rw [← c3,Zzl I.size c4,ZbC]
   by_cases hd : io.dst = some t
   ·rw [if_pos hd,if_pos hd]; exact hv
   ·rw [if_neg hd,if_neg hd]
    refine (I.env t fun j y hy hj hmj => ?_).mono hle
    by_cases hji : j = i
    ·subst hji; rw [hio] at hy; cases hy; exact hd
    ·exact ht j y hy (by rw [inst j hji]; exact hj) (by rw [insm j hji]; exact hmj)
  ·obtain ⟨hji,hj,hmj⟩:=ne j hj hmj
   obtain ⟨k1,v',δ',k2,k3,k4⟩:=I.pend j y hy hj hmj
   refine ⟨k1,v',δ',fun t ht => ?_,?_,fun x hx => ?_⟩
   ·rw [ZbC,if_neg (fun q => (hfree.ssa i j io y t hio hy q).2 (fun r => hji r.symm) ht)]; exact k2 t ht
   ·rw [ZkW (e':=e) fun t ht => ?_,((Znx k1).2.2 G F e h1.mem h.mem _).1]
    ·exact k3
    ·rw [ZbC,if_neg (fun q => hnr j y hy hj t q (List.mem_append_left _ ht))]
   ·obtain ⟨p,q1,q2,q3⟩:=k4 x hx
    obtain ⟨r1,r2⟩:=hkeep p x (I.low j p hj hmj q1) q3 q2
    exact ⟨p,q1,r1,r2⟩
  ·obtain ⟨_,hj,hmj⟩:=ne j hj hmj
   obtain ⟨_,hk,hmk⟩:=ne k hk hmk
   exact I.dis j k p hj hmj hk hmk hjk
  ·obtain ⟨_,hj,hmj⟩:=ne j hj hmj
   exact Nat.lt_of_lt_of_le (I.low j p hj hmj hp) hlen
 unfold wpOp
 rw [ho]
 simp only
 rw [Zju] at hev
 cases hg : guardV e io.guard with
 | none => rw [hg] at hev; cases hev
 | some b =>
  rw [hg] at hev
  have hwant:=ZkU hE c2 (hgv.trans hg)
  rw [hwant]
  cases b
  ·simp only [Bool.false_eq_true,if_false]
   simp only [evOps,Option.some.injEq,Prod.mk.injEq] at hev
   obtain ⟨rfl,rfl⟩:=hev
   exact hK S undef (.refl S) (.refl _ _) (stage S undef (.tup []) (.refl S) (by simp [Rel,undef,RelL]) rfl I.hr (fun p x _ hn hx => ⟨hx,hn⟩) (Nat.le_refl _))
  ·simp only [if_true]
   simp only at hev
   cases hop : evOp G F e h io.op with
   | none => rw [hop] at hev; cases hev
   | some r2 =>
    obtain ⟨v,h2⟩:=r2
    rw [hop] at hev
    simp only [Option.bind_some,evOps,Option.some.injEq,Prod.mk.injEq] at hev
    obtain ⟨rfl,rfl⟩:=hev
    have htm : ∀ t ∈ tmpsOf io.op,getE em t = getE e t:=fun t ht => hcg t (List.mem_append_left _ ht)
    cases hw : isW io.op with
    | true =>
     have hw':=Zoq hw hop
     rw [← ZtY htm] at hw'
     obtain ⟨f1,f2⟩:=ZyF (I.L ▸ hL) hE c1 (hfree.noc i io hio) hw'
     refine .inl (Zlc (ZHN (I.L ▸ hL) hE I.hr I.g (I.L ▸ hF) c1 hw') ?_)
     rintro u w' ⟨S',rfl,ok,hv,hid⟩
     refine hK S' u ok.le ok.below (stage S' u v ok.le hv rfl ok.hr (fun p x hp hn hx => ⟨by rw [f1 p hp hn]; exact hx,?_⟩) f2)
     rcases hid with ⟨f,as,q⟩ | hid
     ·have:=hfree.noc i io hio
      rw [q] at this; cases this
     ·rw [hid p (by omega)]; exact hn
    | false =>
     obtain ⟨δ,fr,hq,hb,hf⟩:=Zfx hw hop
     rw [← ZkW htm] at hq
     have hle : ∀ (b : Nat) (k : Blk),h.mem b = some k→h2.mem b = some k:=fun b k hb' => by
      show h2.b[b]? = _
      rw [hb,List.getElem?_append_left (List.getElem?_eq_some_iff.1 hb').1]; exact hb'
     have H2 : HR A n0 S h2.mem h2.fz:=I.hr.ext (fun b i hi => by
      obtain ⟨k,hk⟩:=I.hr.dom b i hi
      rw [hk,hle b k hk]) (fun b hb' => by show b ∈ h2.f; rw [hf]; exact List.mem_append_right _ hb')
     refine .inl (Zlc (q_ok (I.L ▸ hL) hE H2 hle I.g (I.L ▸ hF) c1 hq (fun x hx => ?_) (fun _ => ZnL I.hr (Nat.le_refl _)) (fun b hb' => by show b ∈ h2.f; rw [hf]; exact List.mem_append_left _ hb')) ?_)
     ·show h2.b[h.b.length]? = _
      rw [hb]
      rcases ZnY hq with rfl | ⟨y,rfl⟩
      ·cases hx
      ·simp at hx; subst hx; simp
     ·rintro u w' ⟨S',rfl,ok,hv,hid⟩
      refine hK S' u ok.le ok.below (stage S' u v ok.le hv rfl ok.hr (fun p x hp hn hx => ⟨hle p x hx,?_⟩) (by rw [hb,List.length_append]; omega))
      rw [hid p (.inr (by omega))]; exact hn
theorem Zoc {listed : Array Bool} (hsz : listed.size = ops.size) {i : Nat} (hi : i < ops.size) : (fun j => (listed.setIfInBounds i true).getD j false) = ins (fun j => listed.getD j false) i:=by
 funext j
 unfold ins
 by_cases hj : j = i
 ·subst hj
  rw [if_pos rfl,Array.getD_eq_getD_getElem?,Array.getElem?_setIfInBounds_self_of_lt (by omega)]; rfl
 ·rw [if_neg hj,Array.getD_eq_getD_getElem?,Array.getElem?_setIfInBounds_ne (fun q => hj q.symm),← Array.getD_eq_getD_getElem?]
theorem Zpl (hll : l.length = ops.size) (hfree : TFree ops l) {L : Nat→Option FuncId} {fin : Env→Heap→Option (Env × Heap)} {r : Env × Heap} {ms : Nat→Bool} {S : Sc} {a : Act} :
  ∀ (n : Nat) (tl : Array Bool) (pn : Nat→Option Nat) (e : Env) (h : Heap),tl.size = ops.size→evT G F l fin (treeC ops l n tl) e h = some r→TInv C A n0 G F ops l L pn (fun i => tl.getD i false) ms e h S a →
  ∃ (n' : Nat) (tl' : Array Bool) (pn' : Nat→Option Nat) (e' : Env) (h' : Heap),evT G F l fin (treeC ops l n' tl') e' h' = some r∧tl'.size = ops.size∧TInv C A n0 G F ops l L pn' (fun i => tl'.getD i false) ms e' h' S a ∧
   ((Region.ready .any ops tl' = []∧fin e' h' = some r)∨(Region.ready .any ops tl'≠[]∧∃ m,∀ i ∈ Region.ready .any ops tl',eagerAt l i = false∧evT G F l fin (.op i (treeC ops l m (tl'.setIfInBounds i true))) e' h' = some r))
 | 0,tl,pn,e,h,hsz,hev,I => by
  have hev0:=hev
  simp only [treeC] at hev
  split at hev
  ·next hr => exact ⟨0,tl,pn,e,h,hev0,hsz,I,.inl ⟨hr,by simpa only [evT] using hev⟩⟩
  ·simp [evT] at hev
 | n + 1,tl,pn,e,h,hsz,hev,I => by
  have hev0:=hev
  simp only [treeC] at hev
  split at hev
  ·next i hf =>
   have hmem:=List.mem_of_find?_eq_some hf
   have hea:=List.find?_some hf
   obtain ⟨h1,h2,h3⟩:=(ZeS hsz).1 hmem
   have hio : l[i]? = some l[i]:=List.getElem?_eq_getElem (by omega)
   unfold eagerAt at hea
   rw [hio] at hea
   simp only [evT,hio] at hev
   cases hop : evOps G F [l[i]] e h with
   | none => rw [hop] at hev; cases hev
   | some q =>
    obtain ⟨e1,h1'⟩:=q
    rw [hop,Option.bind_some] at hev
    have I':=I.early hfree hio h2 h3 hea hop
    rw [← Zoc hsz h1] at I'
    exact Zpl hll hfree n _ _ e1 h1' (by simpa using hsz) hev I'
  ·next hf =>
   cases hr : Region.ready .any ops tl with
   | nil =>
    rw [hr] at hev
    exact ⟨n + 1,tl,pn,e,h,hev0,hsz,I,.inl ⟨hr,by simpa only [List.map_nil,altT,evT] using hev⟩⟩
   | cons x xs =>
    refine ⟨n + 1,tl,pn,e,h,hev0,hsz,I,.inr ⟨by rw [hr]; simp,n,fun i hi => ⟨?_,?_⟩⟩⟩
    ·have:=List.find?_eq_none.1 hf i hi
     simpa using this
    ·exact Zxi hev _ (List.mem_map.2 ⟨i,hi,rfl⟩)
theorem ZCB (hl : mapO (compOper C ops) ops.toList = some l) (hfree : TFree ops l) {L : Nat→Option FuncId} (hL : Link C L) (hF : CallsOK C.P L G F) {fin : Env→Heap→Option (Env × Heap)} {Q : Exit→Act→World→Prop} {S0 : Sc} {df : List Deferred} {r : Env × Heap}
  (hQ : ∀ (a' : Act) (e1 : Env) (h1 : Heap) (S' : Sc),fin e1 h1 = some r→S0.Le S'→Go.RowKit.Below n0 S0.w S'.w→HR A n0 S' h1.mem h1.fz→EnvR S' C.N e1 a'→a'.defers = df→Q .normal a' S'.w) :
  ∀ (fuel : Nat) (listed : Array Bool) (n : Nat) (tl : Array Bool) (pn : Nat→Option Nat) (e : Env) (h : Heap) (S : Sc) (a : Act),listed.size = ops.size→left ops.size (fun i => listed.getD i false)≤fuel→tl.size = ops.size →
   evT G F l fin (treeC ops l n tl) e h = some r→TInv C A n0 G F ops l L pn (fun i => tl.getD i false) (fun i => listed.getD i false) e h S a →
   S0.Le S→Go.RowKit.Below n0 S0.w S.w→a.defers = df→wpAny C.P .any ops Q fuel listed a S.w:=by
 have hll : l.length = ops.size:=by rw [ZdM hl]; simp
 have done : ∀ (listed : Array Bool) (n : Nat) (tl : Array Bool) (pn : Nat→Option Nat) (e : Env) (h : Heap) (S : Sc) (a : Act),listed.size = ops.size→tl.size = ops.size→Region.ready .any ops listed = [] →
   evT G F l fin (treeC ops l n tl) e h = some r→TInv C A n0 G F ops l L pn (fun i => tl.getD i false) (fun i => listed.getD i false) e h S a →
   S0.Le S→Go.RowKit.Below n0 S0.w S.w→a.defers = df→Q .normal a S.w:=by
  intro listed n tl pn e h S a hsz htz hr hev I hle hbe hdf
  have all : ∀ i,i < ops.size→listed.getD i false = true:=by
   intro i
   induction i using Nat.strongRecOn with
   | _ i ih =>
    intro hi
    cases hli : listed.getD i false with
    | true => rfl
    | false =>
     have : i ∈ Region.ready .any ops listed:=(ZeS hsz).2 ⟨hi,hli,fun o ho e he hb => ih e.on (hfree.back i o ho e he hb) (by have:=hfree.back i o ho e he hb; omega)⟩
     rw [hr] at this; cases this
  obtain ⟨_,tl',pn',e',h',_,htz',I',hend⟩:=Zpl hll hfree n tl pn e h htz hev I
  rcases hend with ⟨_,hfin⟩ | ⟨hne,_⟩
  ·refine hQ a e' h' S hfin hle hbe I'.hr ⟨I'.size,fun t => I'.env t fun j io hio _ hm => ?_⟩ hdf
   have:=all j (by rw [← hll]; exact (List.getElem?_eq_some_iff.1 hio).1)
   rw [this] at hm; cases hm
  ·exfalso
   obtain ⟨i,hi⟩:=List.exists_mem_of_ne_nil _ hne
   obtain ⟨h1,h2,_⟩:=(ZeS htz').1 hi
   have h3:=I'.sub i (all i h1)
   rw [h2] at h3
   cases h3
 intro fuel
 induction fuel with
 | zero =>
  intro listed n tl pn e h S a hsz hfu htz hev I hle hbe hdf
  have hr : Region.ready .any ops listed = []:=by
   apply List.eq_nil_iff_forall_not_mem.2
   intro i hi
   obtain ⟨h1,h2,h3⟩:=(ZeS hsz).1 hi
   have:=ZoX (ls:=fun j => listed.getD j false) h1 h2
   omega
  exact ⟨hr,done listed n tl pn e h S a hsz htz hr hev I hle hbe hdf⟩
 | succ fuel ih =>
  intro listed n tl pn e h S a hsz hfu htz hev I hle hbe hdf
  refine ⟨fun hr => done listed n tl pn e h S a hsz htz hr hev I hle hbe hdf,fun i hi => ?_⟩
  obtain ⟨h1,h2,h3⟩:=(ZeS hsz).1 hi
  have hlf:=ZoX (ls:=fun j => listed.getD j false) h1 h2
  have hsz' : (listed.setIfInBounds i true).size = ops.size:=by simpa using hsz
  obtain ⟨n',tl',pn',e',h',hev',htz',I',hend⟩:=Zpl hll hfree n tl pn e h htz hev I
  by_cases hti' : tl'.getD i false = true
  ·refine I'.late hl hfree hL hF (by omega) hti' h2 h3 fun S' u le be I2 => ?_
   rw [← Zoc hsz h1] at I2
   exact ih _ n' tl' pn' e' h' S' _ hsz' (by rw [Zoc hsz h1]; omega) htz' hev' I2 (hle.trans le) (hbe.trans be) (by rw [Zok]; exact hdf)
  ·have hti' : tl'.getD i false = false:=by simpa using hti'
   have hmem : i ∈ Region.ready .any ops tl':=(ZeS htz').2 ⟨h1,hti',fun o ho e he hb => I'.sub _ (h3 o ho e he hb)⟩
   rcases hend with ⟨hr,_⟩ | ⟨_,m,hall⟩
   ·rw [hr] at hmem; cases hmem
   ·obtain ⟨_,hop⟩:=hall i hmem
    have hio : l[i]? = some l[i]:=List.getElem?_eq_getElem (by omega)
    simp only [evT,hio] at hop
    cases hop' : evOps G F [l[i]] e' h' with
    | none => rw [hop'] at hop; cases hop
    | some q =>
     obtain ⟨e1,h1'⟩:=q
     rw [hop',Option.bind_some] at hop
     refine I'.now hl hfree hL hF hio hti' h3 hop' fun S' u le be I2 => ?_
     rw [← Zoc hsz h1,← Zoc htz' h1] at I2
     exact ih _ m _ pn' e1 h1' S' _ hsz' (by rw [Zoc hsz h1]; omega) (by simpa using htz') hop I2 (hle.trans le) (hbe.trans be) (by rw [Zok]; exact hdf)
theorem ZFl (hm : C.P.follows .mixedOrders = true) (hl : mapO (compOper C ops) ops.toList = some l) (hto : treeOk ops l = true) {S : Sc} (hL : Link C S.L) (hF : CallsOK C.P S.L G F) {Q : Exit→Act→World→Prop} {h h' : Heap} {e e' : Env} {a : Act} {id : Nat} {keep : List Nat}
  (hev : evT G F l (finT keep) (treeC ops l ops.size (Array.replicate ops.size false)) e h = some (e',h')) (hE : EnvR S C.N e a) (H : HR A n0 S h.mem h.fz) (hG : Gok G S)
  (hQ : ∀ a' S',Ok A n0 S S' h'.mem h'.fz→EnvR S' C.N e' a'→a'.defers = a.defers→Q .normal a' S'.w) : (Code.region id ops true).wp C.P Q a S.w:=by
 refine wp_region_any hm ?_
 have dr:=Ok.drew H
 have hls : (fun i => (Array.replicate ops.size false).getD i false) = fun _ => false:=by
  funext i
  rw [Array.getD_eq_getD_getElem?,Array.getElem?_replicate]
  split <;> rfl
 have I : TInv C A n0 G F ops l S.L (fun _ => none) (fun i => (Array.replicate ops.size false).getD i false) (fun i => (Array.replicate ops.size false).getD i false) e h (S.at S.w.drew) a:=by
  rw [hls]
  exact ⟨fun i hi => hi,fun i hi => Bool.noConfusion hi,fun i hi => Bool.noConfusion hi,rfl,hE.size,fun t _ => (hE.get t).mono dr.le,fun j io _ hj => Bool.noConfusion hj,fun i j p hi => Bool.noConfusion hi,fun i p hi => Bool.noConfusion hi,dr.hr,hG.mono dr.le⟩
 refine ZCB hl (ZBL hto) hL hF (S0:=S.at S.w.drew) (df:=a.defers) (r:=(e',h')) ?_ ops.size (Array.replicate ops.size false) ops.size (Array.replicate ops.size false) _ e h (S.at S.w.drew) a (by simp) (by unfold left; exact Nat.le_trans (List.length_filter_le _ _) (by simp)) (by simp) hev I (.refl _) (.refl _ _) rfl
 intro a' e1 h1 S' hfin hle hbe H1 hE1 hdf
 unfold finT at hfin
 simp only [Option.some.injEq,Prod.mk.injEq] at hfin
 obtain ⟨rfl,rfl⟩:=hfin
 exact hQ a' S' ⟨dr.le.trans hle,H1,dr.below.trans hbe⟩ (ZpX hE1 keep) hdf
end
section
variable {P : Program} {L : Nat→Option FuncId} {G : Nat→Option (List AV)} {T : Tbl}
def CodeOK (P : Program) (L : Nat→Option FuncId) (G : Nat→Option (List AV)) (E : IC→Env→Heap→Option (Ex × Env × Heap)) : Prop :=
 ∀ (C : CC),C.P = P→Link C L→∀ (c : Code) (ic : IC),compC C c = some (erase ic)→∀ (e : Env) (h : Heap) (x : Ex) (e' : Env) (h' : Heap),E ic e h = some (x,e',h') →
  ∀ (A : Nat→Prop) (n0 : Nat) (S : Sc) (a : Act),S.L = L→EnvR S C.N e a→HR A n0 S h.mem h.fz→Gok G S →
  ∀ (Q : Exit→Act→World→Prop),(∀ a' S',Ok A n0 S S' h'.mem h'.fz→EnvR S' C.N e' a'→a'.defers = a.defers→Q (exOf x) a' S'.w)→c.wp P Q a S.w
def LoopOK (P : Program) (L : Nat→Option FuncId) (G : Nat→Option (List AV)) (E : IC→Env→Heap→Option (Ex × Env × Heap)) (k : Nat) : Prop :=
 ∀ (C : CC),C.P = P→Link C L→∀ (c : Code) (keep : List Nat) (ic : IC),compC C c = some (erase ic)→∀ (e : Env) (h : Heap) (x : Ex) (e' : Env) (h' : Heap),E (.loop keep ic) e h = some (x,e',h') →
  ∀ (A : Nat→Prop) (n0 : Nat) (S : Sc) (a : Act),S.L = L→EnvR S C.N e a→HR A n0 S h.mem h.fz→Gok G S →
  ∀ (Q : Exit→Act→World→Prop),(∀ a' S',Ok A n0 S S' h'.mem h'.fz→EnvR S' C.N e' a'→a'.defers = a.defers→Q (exOf x) a' S'.w)→Code.rounds P c Q k a S.w
theorem ZAO {P : Program} {Q : Exit→Act→World→Prop} {K : Act→World→Prop} {x : Ex} {a : Act} {w : World} (h : x≠.norm→Q (exOf x) a w) (k : x = .norm→K a w) : Exit.then K Q (exOf x) a w:=by
 cases x
 ·exact k rfl
 ·exact h (by simp)
 ·exact h (by simp)
theorem ZBe (hm : P.follows .mixedOrders = true) {k : Nat} (hF : CallsOK P L G (callB G T (ev G T k))) (ih : CodeOK P L G (ev G T k)) (ihl : LoopOK P L G (ev G T k) k) :
  CodeOK P L G (ev G T (k + 1))∧LoopOK P L G (ev G T (k + 1)) (k + 1):=by
 have lp : LoopOK P L G (ev G T (k + 1)) (k + 1):=by
  intro C hP hL c keep ic hc e h x e' h' hev A n0 S a hSL hE H hG Q hQ
  rw [ZsG] at hev
  cases hb : ev G T k ic (keepE keep e) h with
  | none => rw [hb] at hev; cases hev
  | some r =>
   obtain ⟨y,e1,h1⟩:=r
   rw [hb,Option.bind_some] at hev
   rw [rounds_succ]
   refine ih C hP hL c ic hc _ h y e1 h1 hb A n0 S a hSL (ZpX hE keep) H hG _ fun a1 S1 ok1 hE1 hd1 => ?_
   refine ZAO (P:=P) (fun hy => ?_) (fun hy => ?_)
   ·have : thenB (ev G T k (.loop keep ic)) (y,e1,h1) = some (y,e1,h1):=by cases y <;> first | rfl | exact absurd rfl hy
    rw [this] at hev
    simp only [Option.some.injEq,Prod.mk.injEq] at hev
    obtain ⟨rfl,rfl,rfl⟩:=hev
    exact hQ a1 S1 ok1 hE1 hd1
   ·subst hy
    exact ihl C hP hL c keep ic hc e1 h1 x e' h' hev A n0 S1 a1 (ok1.le.L.trans hSL) hE1 ok1.hr (hG.mono ok1.le) Q fun a2 S2 ok2 hE2 hd2 => hQ a2 S2 (ok1.trans ok2) hE2 (hd2.trans hd1)
 refine ⟨?_,lp⟩
 intro C hP hL c ic hc e h x e' h' hev A n0 S a hSL hE H hG Q hQ
 cases c <;> simp only [compC,reduceCtorEq,Option.map_eq_some_iff] at hc
 case skip =>
  cases ic <;> simp only [erase,Option.some.injEq,reduceCtorEq] at hc
  cases hev; exact wp_skip (hQ a S (.refl H) hE rfl)
 case ret =>
  cases ic <;> simp only [erase,Option.some.injEq,reduceCtorEq] at hc
  cases hev; exact wp_ret (hQ a S (.refl H) hE rfl)
 case exit id =>
  cases ic <;> simp only [erase,Option.some.injEq,reduceCtorEq,IC.exit.injEq] at hc
  subst hc
  cases hev; exact wp_exit (hQ a S (.refl H) hE rfl)
 case region id ops draw =>
  have go : ∀ {l : List IOper} {keep : List Nat} {chk : List (Nat × Nat)},mapO (compOper C ops) ops.toList = some l→(draw = true→drawOk ops l chk = true)→ev G T (k + 1) (.reg l keep chk) e h = some (x,e',h')→(Code.region id ops draw).wp P Q a S.w:=by
   intro l keep chk hl hd hev
   rw [ZwC] at hev
   cases hb : evOps G (callB G T (ev G T k)) l e h with
   | none => rw [hb] at hev; cases hev
   | some r =>
    obtain ⟨e1,h1⟩:=r
    rw [hb] at hev
    simp only [Option.bind_some] at hev
    split at hev
    ·next hck =>
     simp only [Option.some.injEq,Prod.mk.injEq] at hev
     obtain ⟨rfl,rfl,rfl⟩:=hev
     subst hP
     have hQ' : ∀ a' S',Ok A n0 S S' h1.mem h1.fz→EnvR S' C.N e1 a'→a'.defers = a.defers→Q .normal a' S'.w:=fun a' S' ok hE' hdf => hQ a' S' ok (ZpX hE' keep) hdf
     cases draw with
     | false => exact ZzP hl (hSL ▸ hL) (hSL ▸ hF) hb hE H hG hQ'
     | true => exact ZFk hm hl (hd rfl) (hSL ▸ hL) (hSL ▸ hF) hb hck hE H hG hQ'
    ·cases hev
  split at hc
  ·next l hl =>
   split at hc
   ·next hdr =>
    split at hc
    ·next hd =>
     cases ic <;> simp only [erase,Option.some.injEq,reduceCtorEq,IC.reg.injEq] at hc
     obtain ⟨rfl,_,rfl⟩:=hc
     exact go hl (fun _ => hd) hev
    ·split at hc
     ·next hto =>
      cases ic <;> simp only [erase,Option.some.injEq,reduceCtorEq,IC.tree.injEq] at hc
      rename_i il it keep
      obtain ⟨rfl,rfl,_⟩:=hc
      rw [Zrn] at hev
      cases hb : evT G (callB G T (ev G T k)) l (finT keep) (treeC ops l ops.size (Array.replicate ops.size false)) e h with
      | none => rw [hb] at hev; cases hev
      | some r =>
       obtain ⟨e1,h1⟩:=r
       rw [hb] at hev
       simp only [Option.map_some,Option.some.injEq,Prod.mk.injEq] at hev
       obtain ⟨rfl,rfl,rfl⟩:=hev
       subst hP hdr
       exact ZFl hm hl hto (hSL ▸ hL) (hSL ▸ hF) hb hE H hG hQ
     ·cases ic <;> simp only [erase,Option.some.injEq,reduceCtorEq] at hc
      cases hev
   ·next hdr =>
    cases ic <;> simp only [erase,Option.some.injEq,reduceCtorEq,IC.reg.injEq] at hc
    obtain ⟨rfl,_,rfl⟩:=hc
    exact go hl (fun q => absurd q hdr) hev
  ·cases ic <;> simp only [erase,Option.some.injEq,reduceCtorEq] at hc
   cases hev
 case seq p q =>
  split at hc
  ·next ip iq hp hq =>
   cases ic <;> simp only [erase,Option.some.injEq,reduceCtorEq,IC.seq.injEq] at hc
   rename_i ia ib
   obtain ⟨rfl,rfl⟩:=hc
   rw [Zxu] at hev
   cases hb : ev G T k ia e h with
   | none => rw [hb] at hev; cases hev
   | some r =>
    obtain ⟨y,e1,h1⟩:=r
    rw [hb,Option.bind_some] at hev
    refine wp_seq (ih C hP hL p ia hp e h y e1 h1 hb A n0 S a hSL hE H hG _ fun a1 S1 ok1 hE1 hd1 => ?_)
    refine ZAO (P:=P) (fun hy => ?_) (fun hy => ?_)
    ·have : thenB (ev G T k ib) (y,e1,h1) = some (y,e1,h1):=by cases y <;> first | rfl | exact absurd rfl hy
     rw [this] at hev
     simp only [Option.some.injEq,Prod.mk.injEq] at hev
     obtain ⟨rfl,rfl,rfl⟩:=hev
     exact hQ a1 S1 ok1 hE1 hd1
    ·subst hy
     exact ih C hP hL q ib hq e1 h1 x e' h' hev A n0 S1 a1 (ok1.le.L.trans hSL) hE1 ok1.hr (hG.mono ok1.le) Q fun a2 S2 ok2 hE2 hd2 => hQ a2 S2 (ok1.trans ok2) hE2 (hd2.trans hd1)
  ·cases hc
 case cond co p q =>
  split at hc
  ·next io ip iq ho hp hq =>
   cases ic <;> simp only [erase,Option.some.injEq,reduceCtorEq,IC.cond.injEq] at hc
   rename_i oc ia ib
   obtain ⟨rfl,rfl,rfl⟩:=hc
   rw [ZrI] at hev
   have hr:=Zao (hSL ▸ hL) hE ho
   cases hv : opd e io <;> rw [hv] at hev hr <;> simp only [reduceCtorEq] at hev
   case bool t =>
    simp only [Rel] at hr
    cases t
    ·exact wp_cond_false hr (ih C hP hL q ib hq e h x e' h' (by simpa using hev) A n0 S a hSL hE H hG Q hQ)
    ·exact wp_cond_true hr (ih C hP hL p ia hp e h x e' h' (by simpa using hev) A n0 S a hSL hE H hG Q hQ)
  ·cases hc
 case block id p =>
  obtain ⟨ip,hp,hc⟩:=hc
  cases ic <;> simp only [erase,reduceCtorEq,IC.block.injEq] at hc
  rename_i id' ia
  obtain ⟨rfl,rfl⟩:=hc
  rw [ZoN] at hev
  cases hb : ev G T k ia e h with
  | none => rw [hb] at hev; cases hev
  | some r =>
   obtain ⟨y,e1,h1⟩:=r
   rw [hb] at hev
   simp only [Option.bind_some,Option.some.injEq,Prod.mk.injEq] at hev
   obtain ⟨rfl,rfl,rfl⟩:=hev
   refine wp_block (ih C hP hL p ia hp e h y e1 h1 hb A n0 S a hSL hE H hG _ fun a1 S1 ok1 hE1 hd1 => ?_)
   have hq1:=hQ a1 S1 ok1 hE1 hd1
   cases y with
   | norm => exact hq1
   | ret => exact hq1
   | exit j =>
    simp only [Ex.inBlock] at hq1
    simp only [exOf,Exit.inBlock]
    split at hq1
    ·next hj => subst hj; simpa [exOf] using hq1
    ·next hj => simpa [hj,exOf] using hq1
 case loop p =>
  obtain ⟨ip,hp,hc⟩:=hc
  cases ic <;> simp only [erase,reduceCtorEq,IC.loop.injEq] at hc
  rename_i keep ia
  obtain ⟨_,rfl⟩:=hc
  exact wp_loop_rounds (k + 1) (lp C hP hL p keep ia hp e h x e' h' hev A n0 S a hSL hE H hG Q hQ)
structure ProgOK (P : Program) (L : Nat→Option FuncId) (T : Tbl) : Prop where
 fn : ∀ f g,L f = some g→∃ (C : CC) (fn : Func) (c : Code) (fi : IFn),C.P = P∧Link C L∧P.funcs[g]? = some fn∧C.N≤fn.ntmps∧fn.body = some c∧T f = some fi∧compC C c = some (erase fi.body)∧mapO (compRes P) fn.results.toList = some fi.res
theorem ZwX : ∀ (vs : List AV) (n t : Nat),getE (numE n vs) t = if n≤t then vs.getD (t - n) .undef else .undef
 | [],n,t => by simp [numE,getE]
 | v :: vs,n,t => by
  simp only [numE,getE]
  by_cases h : t = n
  ·subst h; simp
  ·rw [if_neg h,ZwX vs (n + 1) t]
   by_cases h2 : n + 1≤t
   ·rw [if_pos h2,if_pos (by omega),show t - n = (t - (n + 1)) + 1 by omega]; simp
   ·rw [if_neg h2,if_neg (by omega)]
theorem ZzC {S : Sc} {vs : List AV} {us : List Value} (h : RelL S vs us) {N : Nat} : EnvR S N (numE 0 vs) { tmps:=us.toArray ++ Array.replicate (N - us.toArray.size) undef,defers:=[] }:=by
 refine ⟨by simp; omega,fun t => ?_⟩
 rw [ZwX]
 simp only [Nat.zero_le,if_true,Nat.sub_zero]
 by_cases ht : t < vs.length
 ·have hv : vs[t]? = some vs[t]:=List.getElem?_eq_getElem ht
  obtain ⟨u,hu,hr⟩:=ZgA h t _ hv
  rw [List.getD_eq_getElem?_getD,hv,Array.getD_eq_getD_getElem?,Array.getElem?_append_left (by simpa using (List.getElem?_eq_some_iff.1 hu).1)]
  simp only [List.getElem?_toArray,hu,Option.getD_some]
  exact hr
 ·rw [List.getD_eq_getElem?_getD,List.getElem?_eq_none (by omega)]
  simp [Rel]
theorem ZBS {P : Program} {S : Sc} {hp : Mem} {fz : Nat→Prop} {A : Nat→Prop} {n0 : Nat} (H : HR A n0 S hp fz) {G : Nat→Option (List AV)} (hG : Gok G S) {N : Nat} {e : Env} {a : Act} (hE : EnvR S N e a) {h : Heap} (hh : hp = h.mem) {rv : ResultVar} {ir : IRes} (hc : compRes P rv = some ir) {v : AV} (hv : resOf G e h ir = some v) :
  ∃ u,(match rv with | .tmp t => pure (a.tmps.getD t undef) | .cell ad t => do loadVar t (← asAddr (a.tmps.getD ad undef)) : Sem Value).run P S.w = .ok u S.w∧Rel S v u:=by
 subst hh
 cases rv with
 | tmp t =>
  simp only [compRes,Option.some.injEq] at hc; subst hc
  simp only [resOf,Option.some.injEq] at hv; subst hv
  exact ⟨_,rfl,hE.get t⟩
 | cell t ty =>
  simp only [compRes] at hc
  split at hc
  ·next g i hg hi =>
   split at hc
   ·next h1 =>
    cases hc
    simp only [resOf] at hv
    split at hv
    ·next b off hb =>
     split at hv
     ·next cs hcs =>
      have hr:=hE.get t
      rw [hb] at hr
      obtain ⟨r,o,hu,hat,hl⟩:=Zxa H (fun _ _ q => q) hG hcs hr
      obtain ⟨u,hrun,hv'⟩:=Zoy hg hi h1 hat hl hv
      refine ⟨u,?_,hv'⟩
      simp [hu,asAddr,hrun]
     ·cases hv
    ·cases hv
   ·cases hc
  ·cases hc
theorem ZxG {P : Program} {S : Sc} {A : Nat→Prop} {n0 : Nat} {h : Heap} (H : HR A n0 S h.mem h.fz) {G : Nat→Option (List AV)} (hG : Gok G S) {N : Nat} {e : Env} {a : Act} (hE : EnvR S N e a) {fn : Func} {rs : List IRes} (hc : mapO (compRes P) fn.results.toList = some rs) {vs : List AV} (hv : resL G e h rs = some vs) :
  ∃ u,(results fn a.tmps).run P S.w = .ok u S.w∧Rel S (pack vs) u:=by
 have key : ∀ (rvs : List ResultVar) (rs : List IRes) (vs : List AV),mapO (compRes P) rvs = some rs→resL G e h rs = some vs →
   ∃ us,(rvs.mapM fun | .tmp t => pure (a.tmps.getD t undef) | .cell ad t => do loadVar t (← asAddr (a.tmps.getD ad undef)) : Sem (List Value)).run P S.w = .ok us S.w∧RelL S vs us:=by
  intro rvs
  induction rvs with
  | nil => intro rs vs h1 h2; simp [mapO] at h1; subst h1; simp [resL] at h2; subst h2; exact ⟨[],by simp,by simp [RelL]⟩
  | cons rv rvs ih =>
   intro rs vs h1 h2
   simp only [mapO] at h1
   split at h1
   ·next ir irs h3 h4 =>
    cases h1
    simp only [resL] at h2
    split at h2
    ·next v vs' h5 h6 =>
     cases h2
     obtain ⟨us,hu,hr⟩:=ih irs vs' h4 h6
     obtain ⟨u,hu1,hr1⟩:=ZBS (P:=P) H hG hE rfl h3 h5
     refine ⟨u :: us,?_,by simp only [RelL]; exact ⟨u,us,rfl,hr1,hr⟩⟩
     simp only [List.mapM_cons,Sem.run_bind,hu1,Result.andThen_ok,hu,Sem.run_pure]
    ·cases h2
   ·cases h1
 obtain ⟨us,hu,hr⟩:=key fn.results.toList rs vs hc hv
 have hl:=Zas hr
 unfold results
 rw [Array.mapM_eq_mapM_toList]
 rw [Sem.run_bind,Sem.run_map]
 erw [hu]
 refine ⟨_,rfl,?_⟩
 show Rel S (pack vs) (if h : us.toArray.size = 1 then us.toArray[0] else .tuple us.toArray)
 by_cases h1 : us.toArray.size = 1
 ·rw [dif_pos h1]
  obtain ⟨u,rfl⟩ : ∃ u,us = [u]:=List.length_eq_one_iff.1 (by simpa using h1)
  obtain ⟨v,rfl⟩ : ∃ v,vs = [v]:=List.length_eq_one_iff.1 (by simpa using hl.symm)
  simp only [RelL] at hr
  obtain ⟨u',r,he,h2,_⟩:=hr
  cases he
  exact h2
 ·rw [dif_neg h1]
  have hp : pack vs = .tup vs:=by
   unfold pack
   split
   ·next v => exfalso; simp at hl h1; omega
   ·rfl
  rw [hp]
  simp only [Rel]
  exact ⟨us.toArray,rfl,by simpa using hr⟩
theorem ZqO (hP : ProgOK P L T) {k : Nat} (ih : CodeOK P L G (ev G T k)) : CallsOK P L G (callB G T (ev G T k)):=by
 have main : ∀ (inl : Bool) (f : Nat) (g : FuncId) (args : List AV) (h : Heap) (r : AV) (h' : Heap),L f = some g→callB G T (ev G T k) inl f args h = some (r,h')→∀ (A : Nat→Prop) (n0 : Nat) (S : Sc) (us : List Value),S.L = L→HR A n0 S h.mem h.fz →
   Gok G S→RelL S args us→∃ (vs : List AV) (h1 : Heap),(if inl then r = pack vs∧h' = h1 else snap h1.mem (pack vs) = some r)∧Calls P g us.toArray S.w fun e w' => ∃ u,e = .returned u∧Res A n0 S (pack vs) h1.mem h1.fz u w':=by
  intro inl f g args h r h' hLf hcall A n0 S us hSL H hG hu
  obtain ⟨C,fn,c,fi,hCP,hLC,hfn,hN,hbody,hT,hcomp,hres⟩:=hP.fn f g hLf
  rw [Zjb,hT,Option.bind_some] at hcall
  cases hb : ev G T k fi.body (numE 0 args) h with
  | none => rw [hb] at hcall; cases hcall
  | some q =>
   obtain ⟨x,e1,h1⟩:=q
   rw [hb,Option.bind_some] at hcall
   have hx : ∃ vs,resL G e1 h1 fi.res = some vs∧(if inl then some (pack vs,h1) else (snap h1.mem (pack vs)).map fun r => (r,Heap.nil)) = some (r,h')∧(x = .norm∨x = .ret):=by
    cases x <;> simp only [callEnd,reduceCtorEq] at hcall
    ·cases hr : resL G e1 h1 fi.res with
     | none => rw [hr] at hcall; cases hcall
     | some vs => rw [hr,Option.bind_some] at hcall; exact ⟨vs,rfl,hcall,.inl rfl⟩
    ·cases hr : resL G e1 h1 fi.res with
     | none => rw [hr] at hcall; cases hcall
     | some vs => rw [hr,Option.bind_some] at hcall; exact ⟨vs,rfl,hcall,.inr rfl⟩
   obtain ⟨vs,hvs,hend,hx⟩:=hx
   refine ⟨vs,h1,?_,?_⟩
   ·cases inl
    ·simp only [Bool.false_eq_true,if_false,Option.map_eq_some_iff] at hend ⊢
     obtain ⟨q,hq,he⟩:=hend
     cases he; exact hq
    ·simp only [if_true,Option.some.injEq,Prod.mk.injEq] at hend ⊢
     exact ⟨hend.1.symm,hend.2.symm⟩
   ·have hE:=ZzC hu (N:=fn.ntmps)
    have hE' : EnvR S C.N (numE 0 args) { tmps:=us.toArray ++ Array.replicate (fn.ntmps - us.toArray.size) undef,defers:=[] }:=⟨Nat.le_trans hN hE.size,hE.get⟩
    refine calls_of_wp hfn hbody (ih C hCP hLC c fi.body hcomp _ h x e1 h1 hb A n0 S _ hSL hE' H hG _ ?_)
    intro a1 S1 ok1 hE1 hd1
    obtain ⟨u,hu1,hu2⟩:=ZxG (P:=P) ok1.hr (hG.mono ok1.le) hE1 hres hvs
    rcases hx with rfl | rfl
    ·exact ⟨hd1,u,hu1,u,rfl,S1,rfl,ok1,hu2⟩
    ·exact ⟨hd1,u,hu1,u,rfl,S1,rfl,ok1,hu2⟩
 refine ⟨?_,?_⟩
 ·intro f g args r h' hLf hcall w A us hA hG hu
  have H0 : HR A w.heap.size ⟨L,w,A,noι⟩ Heap.nil.mem Heap.nil.fz :=
   ⟨fun b k i hb => by simp [Heap.nil,Heap.mem] at hb,fun b i hi => by simp [noι] at hi,fun b b' k k' i i' hb => by simp [Heap.nil,Heap.mem] at hb,
    fun r hr => ⟨hA r hr,fun _ => hr,fun b k i hb => by simp [Heap.nil,Heap.mem] at hb⟩,Nat.le_refl _⟩
  obtain ⟨vs,h1,hsn,hc⟩:=main false f g args .nil r h' hLf hcall A w.heap.size ⟨L,w,A,noι⟩ us rfl H0 hG hu
  simp only [Bool.false_eq_true,if_false] at hsn
  refine hc.mono ?_
  rintro e w' ⟨u,rfl,S',rfl,ok,hr⟩
  have hsh : Shut S' ⟨L,S'.w,fun r => A r∨w.heap.size≤r∧r < S'.w.heap.size,noι⟩:=⟨ok.le.L.symm,rfl,rfl,fun r hr => by
   obtain ⟨x,y,_⟩:=ok.hr.ro r hr
   rcases Nat.lt_or_ge r w.heap.size with q | q
   ·exact .inl (y q)
   ·exact .inr ⟨q,x⟩⟩
  refine ⟨u,rfl,ok.below,?_⟩
  refine Zqt hsh (ZpN ok.hr (fun _ _ q => q) hsh 3) (pack vs) r u hsn ?_ hr
  intro b _ i hi ⟨k,hk,_⟩
  have B:=ok.hr.blk b k i hk hi
  obtain ⟨_,_,hrow,_⟩:=B.row
  exact .inr ⟨B.low,Zmo hrow⟩
 ·intro f g args h r h' hLf hcall A n0 S us hSL H hG hu
  obtain ⟨vs,h1,hsn,hc⟩:=main true f g args h r h' hLf hcall A n0 S us hSL H hG hu
  simp only [if_true] at hsn
  obtain ⟨rfl,rfl⟩:=hsn
  exact hc
theorem ZwH (hm : P.follows .mixedOrders = true) (hP : ProgOK P L T) : ∀ k,CodeOK P L G (ev G T k)∧LoopOK P L G (ev G T k) k
 | 0 => by
  constructor
  ·intro C _ _ c ic _ e h x e' h' hev; cases hev
  ·intro C _ _ c keep ic _ e h x e' h' hev; cases hev
 | k + 1 => ZBe hm (ZqO hP (ZwH hm hP k).1) (ZwH hm hP k).1 (ZwH hm hP k).2
theorem ZAl (hm : P.follows .mixedOrders = true) (hP : ProgOK P L T) {f : Nat} {g : FuncId} {args : List AV} {r : AV} (hLf : L f = some g) (hr : run G T f args = some r)
  (w : World) (A : Nat→Prop) (hA : ∀ r,A r→r < w.heap.size) (hG : Gok G ⟨L,w,A,noι⟩) {us : List Value} (hu : RelL ⟨L,w,A,noι⟩ args us) :
  Calls P g us.toArray w fun e w' => ∃ u,e = .returned u∧Go.RowKit.Below w.heap.size w w'∧Rel ⟨L,w',fun r => A r∨w.heap.size≤r∧r < w'.heap.size,noι⟩ r u:=by
 unfold run at hr
 rw [Option.map_eq_some_iff] at hr
 obtain ⟨⟨r',h'⟩,hc,rfl⟩:=hr
 obtain ⟨k,hk⟩:=((ZAg G T false f args .nil).sup _).1 hc
 exact (ZqO hP (ZwH hm hP k).1).shut f g args r' h' hLf hk w A us hA hG hu
end
end Go.Cv
