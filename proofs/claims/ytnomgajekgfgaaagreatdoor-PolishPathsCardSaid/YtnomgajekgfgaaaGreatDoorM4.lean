/-
 A part of the proof of the statements of this seat (texts that the law's own text leans on): no condition.
-/
import Derived.Test.YtnomgajekgfgaaaGreatDoorM3
import Derived.Laws.LoneSync
set_option linter.unusedVariables false
set_option linter.unusedSimpArgs false
namespace Go.Cv
theorem ZjW {G : Nat→Option (List AV)} {F : CallF} {e : Env} {h h' : Heap} {o : IOp} {v : AV} (hw : isW o = false) (hev : evOp G F e h o = some (v,h')) :
  ∃ δ fr,evQ G F e h.mem h.b.length o = some (v,δ,fr)∧h'.b = h.b ++ δ∧h'.f = fr ++ h.f:=by
 unfold evOp at hev
 rw [if_neg (by simp [hw]),Option.map_eq_some_iff] at hev
 obtain ⟨⟨v',δ,fr⟩,hq,he⟩:=hev
 simp only [Prod.mk.injEq] at he
 obtain ⟨rfl,rfl⟩:=he
 exact ⟨δ,fr,hq,rfl,rfl⟩
theorem ZrP {G : Nat→Option (List AV)} {F : CallF} {e : Env} {h h' : Heap} {o : IOp} {v : AV} (hw : isW o = true) (hev : evOp G F e h o = some (v,h')) : evW G F e h o = some (v,h'):=by
 unfold evOp at hev
 rwa [if_pos hw] at hev
theorem Zkj {G : Nat→Option (List AV)} {F : CallF} {l : List IOper} {E : Nat→Env} {M : Nat→Heap} {V : Nat→AV} (hs : Seq G F l E M V) {i : Nat} :
  ∀ {k : Nat},i≤k→k≤l.length→(∀ j io,i≤j→j < k→l[j]? = some io→isW io.op = false)→(∃ t,(M k).b = (M i).b ++ t)∧∀ b ∈ (M i).f,b ∈ (M k).f:=by
 intro k hik
 induction hik with
 | refl => intro _ _; exact ⟨⟨[],by simp⟩,fun _ h => h⟩
 | @step k hik ih =>
  intro hk h
  obtain ⟨⟨t,ht⟩,hf⟩:=ih (by omega) fun j io a b => h j io a (by omega)
  have hio : l[k]? = some l[k]:=List.getElem?_eq_getElem (by omega)
  rcases hs.doing k _ hio with ⟨_,hop⟩ | ⟨_,_,hm⟩
  ·obtain ⟨δ,fr,_,h1,h2⟩:=ZjW (h k _ hik (by omega) hio) hop
   refine ⟨⟨t ++ δ,by rw [h1,ht]; simp⟩,fun b hb => by rw [h2]; exact List.mem_append_right _ (hf b hb)⟩
  ·rw [hm]; exact ⟨⟨t,ht⟩,hf⟩
theorem ZuF {G : Nat→Option (List AV)} {F : CallF} {l : List IOper} {E : Nat→Env} {M : Nat→Heap} {V : Nat→AV} (hs : Seq G F l E M V) {i : Nat} :
  ∀ {k : Nat},i≤k→k≤l.length→(∀ j io,i≤j→j < k→l[j]? = some io→sens io.op = false)→M k = M i:=by
 intro k hik
 induction hik with
 | refl => intro _ _; rfl
 | @step k hik ih =>
  intro hk h
  have ih':=ih (by omega) fun j io a b => h j io a (by omega)
  have hio : l[k]? = some l[k]:=List.getElem?_eq_getElem (by omega)
  have hsn:=h k _ hik (by omega) hio
  have hw : isW l[k].op = false:=by
   generalize l[k].op = o at hsn
   cases o <;> first | rfl | (simp [sens] at hsn; done)
  rcases hs.doing k _ hio with ⟨_,hop⟩ | ⟨_,_,hm⟩
  ·obtain ⟨δ,fr,hq,h1,h2⟩:=ZjW hw hop
   obtain ⟨rfl,rfl⟩:=Zpq hsn hq
   rw [← ih']
   cases hM : M (k + 1) with
   | mk b f =>
    rw [hM] at h1 h2
    cases hM' : M k with
    | mk b' f' =>
     rw [hM'] at h1 h2
     simp at h1 h2
     rw [h1,h2]
  ·rw [hm,ih']
section
variable {C : CC} {A : Nat→Prop} {n0 : Nat} {G : Nat→Option (List AV)} {F : CallF} {ops : Array Oper} {l : List IOper}
def Lone (E : Nat→Env) (i j : Nat) (x y : IOper) : Prop :=
 ∃ dx g n ax gx dy m ay vy gy,x = ⟨dx,.load g n ax,gx⟩∧y = ⟨dy,.store m ay vy,gy⟩∧apart (opd (E i) ax) (opd (E j) ay) = true
structure Free (ops : Array Oper) (l : List IOper) (E : Nat→Env) : Prop where
 back : ∀ i o,ops[i]? = some o→∀ e ∈ o.after,Region.binds .any e = true→e.on < i
 pair : ∀ i j x y,i < j→l[i]? = some x→l[j]? = some y→(((Region.before ops).getD j 0).testBit i = true∨(indT x y = true∧(indM x y = true∨Lone E i j x y)))∧¬ (isW x.op = true∧sens y.op = true∧isW y.op = false)
theorem Zsa {G : Nat→Option (List AV)} {F : CallF} {l : List IOper} {E : Nat→Env} {M : Nat→Heap} {V : Nat→AV} (hs : Seq G F l E M V) {i : Nat} {a : IOpd} :
  ∀ {k : Nat},i≤k→k≤l.length→(∀ m z,i≤m→m < k→l[m]? = some z→∀ t ∈ opdT a,z.dst≠some t)→opd (E k) a = opd (E i) a:=by
 intro k hik
 induction hik with
 | refl => intro _ _; rfl
 | @step k hik ih =>
  intro hk h
  have hio : l[k]? = some l[k]:=List.getElem?_eq_getElem (by omega)
  rw [← ih (by omega) fun m z a b => h m z a (by omega)]
  refine ZaK fun t ht => ?_
  rw [hs.env k _ hio,Zgx,if_neg (h k _ hik (by omega) hio t ht)]
theorem ZEl {e : Env} {ops : List IOper} {chk : List (Nat × Nat)} (h : chkOk e ops chk = true) {i j : Nat} (hm : (i,j) ∈ chk) :
  (match ops[i]?,ops[j]? with | some ⟨_,.load _ _ a,_⟩,some ⟨_,.store _ b _,_⟩ => apart (opd e a) (opd e b) | _,_ => false) = true:=by
 induction chk with
 | nil => cases hm
 | cons p r ih =>
  obtain ⟨i',j'⟩:=p
  simp only [chkOk,Bool.and_eq_true] at h
  rcases List.mem_cons.1 hm with he | hm
  ·cases he; exact h.1
  ·exact ih h.2 hm
theorem ZEB {chk : List (Nat × Nat)} (h : drawOk ops l chk = true) {E : Nat→Env} {M : Nat→Heap} {V : Nat→AV} (hs : Seq G F l E M V) (hchk : chkOk (E l.length) l chk = true) : Free ops l E:=by
 unfold drawOk at h
 simp only [Bool.and_eq_true,List.all_eq_true,List.mem_range] at h
 obtain ⟨h1,h2⟩:=h
 refine ⟨fun i o ho e he hb => ?_,fun i j x y hij hx hy => ?_⟩
 ·have hlt : i < ops.size:=by
   rcases Nat.lt_or_ge i ops.size with q | q
   ·exact q
   ·simp [Array.getElem?_eq_none q] at ho
  have:=h1 i hlt
  rw [ho] at this
  have:=List.all_eq_true.1 this e (by simpa using he)
  simpa [hb] using this
 ·have hlt : j < l.length:=(List.getElem?_eq_some_iff.1 hy).1
  have:=h2 j hlt i hij
  rw [hx,hy] at this
  simp only [Bool.and_eq_true,Bool.or_eq_true,Bool.not_eq_true',Bool.and_eq_false_iff,Bool.not_eq_false'] at this
  refine ⟨?_,fun ⟨a,b,c⟩ => ?_⟩
  ·rcases this.1 with q | ⟨q1,q2 | ⟨q2,q3⟩⟩
   ·exact .inl q
   ·exact .inr ⟨q1,.inl q2⟩
   ·refine .inr ⟨q1,.inr ?_⟩
    have hm : (i,j) ∈ chk:=by simpa using q2
    have hc:=ZEl hchk hm
    rw [hx,hy] at hc
    unfold loneS at q3
    rw [hx,hy] at q3
    split at q3
    ·next dx g n ax gx dy m ay vy gy h3 h4 =>
     cases h3; cases h4
     simp only at hc
     have hall:=List.all_eq_true.1 q3
     have ha : opd (E l.length) ax = opd (E i) ax:=Zsa hs (by omega) (Nat.le_refl _) fun m z him hml hz t ht => by
      have:=hall m (List.mem_range.2 hml)
      rw [hz] at this
      simp only [Bool.and_eq_true,Bool.or_eq_true,decide_eq_true_eq] at this
      have:=this.1.resolve_left (by omega)
      simpa using List.all_eq_true.1 this t ht
     have hb : opd (E l.length) ay = opd (E j) ay:=Zsa hs (by omega) (Nat.le_refl _) fun m z him hml hz t ht => by
      have:=hall m (List.mem_range.2 hml)
      rw [hz] at this
      simp only [Bool.and_eq_true,Bool.or_eq_true,decide_eq_true_eq] at this
      have:=this.2.resolve_left (by omega)
      simpa using List.all_eq_true.1 this t ht
     rw [ha,hb] at hc
     exact ⟨dx,g,n,ax,gx,dy,m,ay,vy,gy,rfl,rfl,hc⟩
    ·cases q3
  ·rcases this.2 with (q | q) | q
   ·rw [a] at q; cases q
   ·rw [b] at q; cases q
   ·rw [c] at q; cases q
theorem ZqD {x y : IOper} (h : indT x y = true) : (∀ d,x.dst = some d→d ∉ readsOf y∧y.dst≠some d)∧(∀ d,y.dst = some d→d ∉ readsOf x):=by
 unfold indT at h
 simp only [Bool.and_eq_true] at h
 obtain ⟨h1,h2⟩:=h
 refine ⟨fun d hd => ?_,fun d hd => ?_⟩
 ·rw [hd] at h1
  simpa using h1
 ·rw [hd] at h2
  simpa using h2
theorem ZqC {x y : IOper} (h : indM x y = true) : ¬ (isW x.op = true∧sens y.op = true)∧¬ (sens x.op = true∧isW y.op = true):=by
 unfold indM at h
 simp only [Bool.and_eq_true,Bool.not_eq_true'] at h
 obtain ⟨h3,h4⟩:=h
 refine ⟨fun ⟨a,b⟩ => ?_,fun ⟨a,b⟩ => ?_⟩
 ·rw [a,b] at h3; cases h3
 ·rw [a,b] at h4; cases h4
theorem ZwD {G : Nat→Option (List AV)} {F : CallF} {e : Env} {h : Mem} {p : Nat} {g : Bool} {n : Nat} {ax : IOpd} {v : AV} {δ : List Blk} {fr : List Nat} (hq : evQ G F e h p (.load g n ax) = some (v,δ,fr)) : δ = []:=by
 simp only [evQ] at hq
 split at hq
 ·simp only [Option.map_eq_some_iff] at hq; obtain ⟨_,_,he⟩:=hq; cases he; rfl
 ·cases hq
theorem Zzp {G : Nat→Option (List AV)} {F : CallF} {e : Env} {h : Mem} {p : Nat} {g : Bool} {n : Nat} {ax : IOpd} {v : AV} {δ : List Blk} {fr : List Nat} (hq : evQ G F e h p (.load g n ax) = some (v,δ,fr)) : fr = []:=by
 simp only [evQ] at hq
 split at hq
 ·simp only [Option.map_eq_some_iff] at hq; obtain ⟨_,_,he⟩:=hq; cases he; rfl
 ·cases hq
theorem ZBH {o : IOp} (h : isW o = true) : sens o = true:=by cases o <;> first | rfl | (rename_i inl f as; cases inl <;> rfl) | (simp [isW] at h; done)
structure Inv (C : CC) (A : Nat→Prop) (n0 : Nat) (ops : Array Oper) (l : List IOper) (E : Nat→Env) (M : Nat→Heap) (V : Nat→AV) (L : LK) (G : Nat→Option (List AV)) (ls : Nat→Bool) (S : Sc) (a : Act) (k : Nat) : Prop where
 closed : Closed ops ls
 L : S.L = L
 env : EnvR S C.N (selE l V ls (E 0) l.length) a
 le : k≤l.length
 hr : HR A n0 S (M k).mem (M k).fz
 wr : ∀ i io,l[i]? = some io→isW io.op = true→(ls i = true→i < k)∧(ls i = false→k≤i)
 qu : ∀ i io,l[i]? = some io→sens io.op = true→isW io.op = false→i < k
 ids : ∀ i io,l[i]? = some io→sens io.op = true→isW io.op = false→ls i = false→(M i).b.length < (M (i + 1)).b.length→S.ι (M i).b.length = none
 g : Gok G S
def ins (ls : Nat→Bool) (i : Nat) : Nat→Bool:=fun j => if j = i then true else ls j
theorem Zuw {ls : Nat→Bool} (hc : Closed ops ls) {i : Nat} (hr : ∀ o,ops[i]? = some o→∀ e ∈ o.after,Region.binds .any e = true→ls e.on = true) : Closed ops (ins ls i):=by
 intro j hj o ho e he hb
 unfold ins at hj ⊢
 split
 ·rfl
 ·split at hj
  ·next hji => subst hji; exact hr o ho e he hb
  ·exact hc j hj o ho e he hb
theorem ZBG (hl : mapO (compOper C ops) ops.toList = some l) {E : Nat→Env} (hfree : Free ops l E) {M : Nat→Heap} {V : Nat→AV} (hs : Seq G F l E M V) {L : LK} (hL : Link C L) (hF : CallsOK C.P L G F)
  {ls : Nat→Bool} {S : Sc} {a : Act} {k : Nat} (I : Inv C A n0 ops l E M V L G ls S a k) {i : Nat} (hi : i < l.length) (hun : ls i = false)
  (hrd : ∀ o,ops[i]? = some o→∀ e ∈ o.after,Region.binds .any e = true→ls e.on = true)
  {Q : Exit→Act→World→Prop} {rr : Option Nat} {nn : Nat} {K : Act→World→Prop}
  (hK : ∀ (S' : Sc) (u : Value) (k' : Nat),S.Le S'→Go.RowKit.Below n0 S.w S'.w→Inv C A n0 ops l E M V L G (ins ls i) S' (a.put ((ops[i]?).bind (·.dst)) u) k'→K (a.put ((ops[i]?).bind (·.dst)) u) S'.w) :
  wpOpIn (Wf rr) nn C.P ops Q i K a S.w:=by
 have hio : l[i]? = some l[i]:=List.getElem?_eq_getElem hi
 generalize hx : l[i] = io at hio
 obtain ⟨o,ho,hc⟩:=ZpG hl i io hio
 rw [Array.getElem?_toList] at ho
 obtain ⟨c1,c2,c3,c4⟩:=ZnP hc
 have hdst : (ops[i]?).bind (·.dst) = o.dst:=by rw [ho]; rfl
 rw [hdst] at hK
 -- what stands ahead of it is done,what it stands ahead of isn't
 have ahead : ∀ j y,j < i→l[j]? = some y→ls j = true∨(indT y io = true∧(indM y io = true∨Lone E j i y io)):=fun j y hj hy => by
  rcases (hfree.pair j i y io hj hy hio).1 with q | q
  ·exact .inl (Zqb q I.closed hrd)
  ·exact .inr q
 have behind : ∀ j y,i < j→l[j]? = some y→ls j = false∨(indT io y = true∧(indM io y = true∨Lone E i j io y)):=fun j y hj hy => by
  cases hlj : ls j with
  | false => exact .inl rfl
  | true =>
   rcases (hfree.pair i j io y hj hio hy).1 with q | q
   ·have:=Zqb q I.closed (fun o' ho' e he hb => I.closed j hlj o' ho' e he hb)
    rw [hun] at this; cases this
   ·exact .inr q
 -- the slots that it looks at are as in the text's order
 have hreads : ∀ t ∈ readsOf io,getE (selE l V ls (E 0) l.length) t = getE (E i) t:=by
  intro t ht
  rw [ZwZ (k:=i) (by omega) ?_,Zth hs (by omega) ?_]
  ·intro j hj y hy hd
   rcases ahead j y hj hy with q | ⟨q,_⟩
   ·exact q
   ·exact absurd ht ((ZqD q).1 t hd).1
  ·intro j hij hjn hlj y hy hd
   rcases Nat.lt_or_ge i j with q | q
   ·rcases behind j y q hy with r | ⟨r,_⟩
    ·rw [r] at hlj; cases hlj
    ·exact absurd ht ((ZqD r).2 t hd)
   ·have : j = i:=by omega
    subst this
    rw [hun] at hlj; cases hlj
 have hgv : guardV (selE l V ls (E 0) l.length) io.guard = guardV (E i) io.guard:=by
  cases hgd : io.guard with
  | none => rfl
  | some p =>
   simp only [guardV]
   rw [hreads p.1 (by simp [readsOf,hgd])]
 have htm : ∀ t ∈ tmpsOf io.op,getE (selE l V ls (E 0) l.length) t = getE (E i) t:=fun t ht => hreads t (List.mem_append_left _ ht)
 -- the slots behind it
 have hsel : ∀ t,getE (selE l V (ins ls i) (E 0) l.length) t = getE (putE io.dst (V i) (selE l V ls (E 0) l.length)) t:=by
  have lo : ∀ m,m≤i→selE l V (ins ls i) (E 0) m = selE l V ls (E 0) m:=by
   intro m
   induction m with
   | zero => intro _; rfl
   | succ m ih =>
    intro hm
    simp only [selE,ih (by omega)]
    have : ins ls i m = ls m:=by unfold ins; rw [if_neg (by omega)]
    rw [this]
  have hi1 : selE l V (ins ls i) (E 0) (i + 1) = putE io.dst (V i) (selE l V ls (E 0) i):=by
   simp only [selE,lo i (Nat.le_refl _),ins,if_true,hio]; rfl
  have hi2 : selE l V ls (E 0) (i + 1) = selE l V ls (E 0) i:=by simp only [selE,hun]; rfl
  intro t
  rw [Zgx]
  by_cases hd : io.dst = some t
  ·rw [if_pos hd,ZwZ (k:=i + 1) (by omega) ?_,hi1,Zgx,if_pos hd]
   intro j hij hjn hlj y hy hyd
   have hlj' : ls j = true:=by unfold ins at hlj; rwa [if_neg (by omega)] at hlj
   rcases behind j y (by omega) hy with r | ⟨r,_⟩
   ·rw [r] at hlj'; cases hlj'
   ·exact absurd hyd ((ZqD r).1 t hd).2
  ·rw [if_neg hd]
   have up : ∀ m,i + 1≤m→getE (selE l V (ins ls i) (E 0) m) t = getE (selE l V ls (E 0) m) t:=by
    intro m hm
    induction hm with
    | refl => rw [hi1,hi2,Zgx,if_neg hd]
    | @step m hm ih =>
     have hm' : i + 1≤m:=hm
     simp only [selE]
     have : ins ls i m = ls m:=by unfold ins; rw [if_neg (by omega)]
     rw [this]
     split
     ·rw [Zgx,Zgx,ih]
     ·exact ih
   exact up _ (by omega)
 have henv : ∀ {S' : Sc} {u : Value},S.Le S'→Rel S' (V i) u→EnvR S' C.N (selE l V (ins ls i) (E 0) l.length) (a.put o.dst u):=fun hle hv => by
  have:=ZpE (I.env.mono hle) c4 hv
  rw [← c3]
  exact ⟨this.size,fun t => by rw [hsel t]; exact this.get t⟩
 have hclosed:=Zuw I.closed hrd
 -- its new stage
 have insj : ∀ j,j≠i→ins ls i j = ls j:=fun j hj => by unfold ins; rw [if_neg hj]
 have insi : ins ls i i = true:=by unfold ins; rw [if_pos rfl]
 have hsensDone : isW io.op = true→∀ j y,j < i→l[j]? = some y→sens y.op = true→ls j = true∨∃ g n ax,y.op = .load g n ax:=fun hw j y hj hy hsy => by
  rcases ahead j y hj hy with q | ⟨_,q | ⟨dx,g,n,ax,gx,_,_,_,_,_,q,_,_⟩⟩
  ·exact .inl q
  ·exact absurd ⟨hsy,hw⟩ (ZqC q).2
  ·exact .inr ⟨g,n,ax,by rw [q]⟩
 have hMk : isW io.op = true→k≤i∧M i = M k:=fun hw => by
  have hki:=(I.wr i io hio hw).2 hun
  refine ⟨hki,ZuF hs hki (by omega) fun j y hkj hji hy => ?_⟩
  cases hsy : sens y.op with
  | false => rfl
  | true =>
   exfalso
   cases hwy : isW y.op with
   | true =>
    rcases hsensDone hw j y hji hy hsy with q | ⟨g,n,ax,q⟩
    ·have:=(I.wr j y hy hwy).1 q
     omega
    ·rw [q] at hwy; cases hwy
   | false => have:=I.qu j y hy hsy hwy; omega
 have stageW : isW io.op = true→∀ {S' : Sc} {u : Value},S.Le S'→Rel S' (V i) u→HR A n0 S' (M (i + 1)).mem (M (i + 1)).fz→Inv C A n0 ops l E M V L G (ins ls i) S' (a.put o.dst u) (i + 1):=by
  intro hw S' u hle hv hh
  refine ⟨hclosed,hle.L.trans I.L,henv hle hv,by omega,hh,?_,?_,?_,I.g.mono hle⟩
  ·intro j y hy hwy
   by_cases hji : j = i
   ·subst hji; exact ⟨fun _ => by omega,fun q => by rw [insi] at q; cases q⟩
   ·rw [insj j hji]
    refine ⟨fun q => ?_,fun q => ?_⟩
    ·have:=(I.wr j y hy hwy).1 q
     have:=(hMk hw).1
     omega
    ·rcases Nat.lt_or_ge j i with r | r
     ·rcases hsensDone hw j y r hy (ZBH hwy) with z | ⟨g,n,ax,z⟩
      ·rw [q] at z; cases z
      ·rw [z] at hwy; cases hwy
     ·omega
  ·intro j y hy hsy hwy
   have:=I.qu j y hy hsy hwy
   have:=(hMk hw).1
   omega
  ·intro j y hy hsy hwy q hlen
   by_cases hji : j = i
   ·subst hji; rw [insi] at q; cases q
   ·rw [insj j hji] at q
    have h1:=I.qu j y hy hsy hwy
    have h2:=(hMk hw).1
    rcases hsensDone hw j y (by omega) hy hsy with z | ⟨g,n,ax,z⟩
    ·rw [q] at z; cases z
    ·exfalso
     rcases hs.doing j y hy with ⟨_,hop⟩ | ⟨_,_,hm⟩
     ·rw [z] at hop
      obtain ⟨δ,fr,hq,hb,_⟩:=ZjW rfl hop
      have:=ZwD hq
      subst this
      rw [hb] at hlen; simp at hlen
     ·rw [hm] at hlen; omega
 have stageQ : isW io.op = false→∀ {S' : Sc} {u : Value},S.Le S'→Rel S' (V i) u→HR A n0 S' (M k).mem (M k).fz →
   (∀ j y,l[j]? = some y→sens y.op = true→isW y.op = false→j≠i→ls j = false→(M j).b.length < (M (j + 1)).b.length→S'.ι (M j).b.length = none)→Inv C A n0 ops l E M V L G (ins ls i) S' (a.put o.dst u) k:=by
  intro hw S' u hle hv hh hids
  refine ⟨hclosed,hle.L.trans I.L,henv hle hv,I.le,hh,?_,I.qu,?_,I.g.mono hle⟩
  ·intro j y hy hwy
   by_cases hji : j = i
   ·subst hji; rw [hio] at hy; cases hy; rw [hw] at hwy; cases hwy
   ·rw [insj j hji]; exact I.wr j y hy hwy
  ·intro j y hy hsy hwy q hlen
   by_cases hji : j = i
   ·subst hji; rw [insi] at q; cases q
   ·rw [insj j hji] at q
    exact hids j y hy hsy hwy hji q hlen
 -- the step
 unfold wpOpIn
 rw [ho]
 simp only
 rcases hs.doing i io hio with ⟨hg,hop⟩ | ⟨hg,hv0,hm0⟩
 ·have hwant:=Zqz I.env c2 (hgv.trans hg)
  rw [hwant,if_pos rfl]
  cases hw : isW io.op with
  | true =>
   have hev:=ZrP hw hop
   rw [← ZyS htm] at hev
   have hki:=hMk hw
   have hr' : HR A n0 S (M i).mem (M i).fz:=by rw [hki.2]; exact I.hr
   refine Zqm (ZgQ c1) (w_ok (I.L ▸ hL) I.env hr' I.g (I.L ▸ hF) c1 hev) ?_
   rintro u w' ⟨S',rfl,ok,hv⟩
   exact hK S' u (i + 1) ok.le ok.below (stageW hw ok.le hv ok.hr)
  | false =>
   obtain ⟨δ,fr,hq,hb,hf⟩:=ZjW hw hop
   rw [← ZyR htm] at hq
   cases hsn : sens io.op with
   | true =>
    have hik:=I.qu i io hio hsn hw
    by_cases hld : ∃ g n ax,io.op = .load g n ax
    ·-- a read: what was written since lies elsewhere
     obtain ⟨g,n,ax,hld⟩:=hld
     have hax : ∀ t ∈ opdT ax,t ∈ tmpsOf io.op:=fun t ht => by rw [hld]; exact ht
     have hopd : opd (selE l V ls (E 0) l.length) ax = opd (E i) ax:=ZaK fun t ht => htm t (hax t ht)
     have hq2 : evQ G F (selE l V ls (E 0) l.length) (M k).mem (M i).b.length io.op = some (V i,δ,fr):=by
      rw [← hq,hld]
      simp only [evQ,hopd]
      rw [hld] at hq
      simp only [evQ,hopd] at hq
      rw [show rdAt G (M k).mem n (opd (E i) ax) = rdAt G (M i).mem n (opd (E i) ax) from ?_]
      cases hpa : opd (E i) ax <;> simp only [rdAt]
      case ptr b off =>
       rw [hpa] at hq
       have hsome : ∃ blk,(M i).mem b = some blk:=by
        simp only [rdAt,rdBlk] at hq
        cases hx : (M i).mem b with
        | none => rw [hx] at hq; simp at hq
        | some blk => exact ⟨blk,rfl⟩
       obtain ⟨blk,hblk⟩:=hsome
       have key : ∀ m,i≤m→m≤k→(M m).mem b = some blk:=by
        intro m him
        induction him with
        | refl => intro _; exact hblk
        | @step m him ih =>
         intro hmk
         have him' : i≤m:=him
         have ih:=ih (by omega)
         have hml : m < l.length:=by have:=I.le; omega
         have hiom : l[m]? = some l[m]:=List.getElem?_eq_getElem hml
         rcases hs.doing m _ hiom with ⟨_,hopm⟩ | ⟨_,_,hmm⟩
         ·cases hwm : isW l[m].op with
          | false =>
           obtain ⟨δ',fr',_,hb',_⟩:=ZjW hwm hopm
           show (M (m + 1)).b[b]? = _
           rw [hb',List.getElem?_append_left (List.getElem?_eq_some_iff.1 ih).1]; exact ih
          | true =>
           have hmi : m≠i:=fun e => by subst e; rw [hio] at hiom; cases hiom; rw [hw] at hwm; cases hwm
           have hlm : ls m = true:=by
            cases q : ls m with
            | true => rfl
            | false => have:=(I.wr m _ hiom hwm).2 q; omega
           rcases behind m _ (by omega) hiom with r | ⟨_,r | ⟨dx,g',n',ax',gx,dy,m',ay,vy,gy,e1,e2,e3⟩⟩
           ·rw [r] at hlm; cases hlm
           ·exact absurd ⟨hsn,hwm⟩ (ZqC r).2
           ·rw [e1] at hld
            simp only [IOp.load.injEq] at hld
            obtain ⟨rfl,rfl,rfl⟩:=hld
            rw [hpa] at e3
            have hw':=ZrP hwm hopm
            rw [e2] at hw'
            simp only [evW] at hw'
            cases hay : opd (E m) ay <;> rw [hay] at hw' e3 <;> simp only [apart,reduceCtorEq] at hw' e3
            case ptr c off' =>
             have hbc : b≠c:=by simpa using e3
             split at hw'
             ·simp only [Option.map_eq_some_iff] at hw'
              obtain ⟨h2,hwr,he⟩:=hw'
              simp only [Prod.mk.injEq] at he
              obtain ⟨_,rfl⟩:=he
              unfold wrBlk at hwr
              split at hwr
              ·split at hwr
               ·simp only [Option.some.injEq] at hwr
                rw [← hwr]
                show (List.set _ c _)[b]? = _
                rw [List.getElem?_set,if_neg (fun q => hbc q.symm)]; exact ih
               ·cases hwr
              ·cases hwr
             ·cases hw'
         ·rw [hmm]; exact ih
       have hk':=key k (Nat.le_of_lt hik) (Nat.le_refl _)
       simp only [rdBlk,hk',hblk]
     have hδ0 : δ = []∧fr = []:=by rw [hld] at hq; exact ⟨ZwD hq,Zzp hq⟩
     obtain ⟨rfl,rfl⟩:=hδ0
     refine Zqm (ZgQ c1) (q_ok (I.L ▸ hL) I.env I.hr (fun _ _ q => q) I.g (I.L ▸ hF) c1 hq2 (fun x hx => by cases hx) (fun q => absurd rfl q) (fun b hb => by cases hb)) ?_
     rintro u w' ⟨S',rfl,ok,hv,hid⟩
     refine hK S' u k ok.le ok.below (stageQ hw ok.le hv ok.hr ?_)
     intro j y hy hsy hwy hji hlj hlen
     rw [hid _ (.inl rfl)]
     exact I.ids j y hy hsy hwy hlj hlen
    -- it makes,or calls: nothing is written yet
    have hnw : ∀ j y,i≤j→j < k→l[j]? = some y→isW y.op = false:=by
     intro j y hij hjk hy
     cases hwy : isW y.op with
     | false => rfl
     | true =>
      exfalso
      have hji : j≠i:=fun e => by subst e; rw [hio] at hy; cases hy; rw [hw] at hwy; cases hwy
      cases hlj : ls j with
      | false => have:=(I.wr j y hy hwy).2 hlj; omega
      | true =>
       rcases behind j y (by omega) hy with r | ⟨_,r | ⟨dx,g',n',ax',gx,_,_,_,_,_,e1,_,_⟩⟩
       ·rw [r] at hlj; cases hlj
       ·exact absurd ⟨hsn,hwy⟩ (ZqC r).2
       ·exact hld ⟨g',n',ax',by rw [e1]⟩
    obtain ⟨⟨t0,ht0⟩,hf0⟩:=Zkj hs (Nat.le_of_lt hik) I.le hnw
    obtain ⟨⟨t1,ht1⟩,hf1⟩:=Zkj hs (show i + 1≤k by omega) I.le fun j y hij => hnw j y (by omega)
    have hle : ∀ b x,(M i).mem b = some x→(M k).mem b = some x:=fun b x hx => by
     show (M k).b[b]? = _
     rw [ht0,List.getElem?_append_left (List.getElem?_eq_some_iff.1 hx).1]; exact hx
    refine Zqm (ZgQ c1) (q_ok (I.L ▸ hL) I.env I.hr hle I.g (I.L ▸ hF) c1 hq ?_ ?_ ?_) ?_
    ·intro x hx
     show (M k).b[(M i).b.length]? = _
     rw [ht1,hb]
     rcases Zvi hq with rfl | ⟨y,rfl⟩
     ·cases hx
     ·simp at hx; subst hx; simp
    ·intro hne
     refine I.ids i io hio hsn hw hun ?_
     rw [hb]
     cases δ with
     | nil => exact absurd rfl hne
     | cons y ys => simp
    ·intro b hbf
     exact hf1 b (by rw [hf]; exact List.mem_append_left _ hbf)
    ·rintro u w' ⟨S',rfl,ok,hv,hid⟩
     refine hK S' u k ok.le ok.below (stageQ hw ok.le hv ok.hr ?_)
     intro j y hy hsy hwy hji hlj hlen
     have hnone:=I.ids j y hy hsy hwy hlj hlen
     rw [hid _ ?_]; exact hnone
     rcases Zvi hq with hδ | ⟨z,hδ⟩
     ·exact .inl hδ
     ·right
      have hlen' : (M (i + 1)).b.length = (M i).b.length + 1:=by rw [hb,hδ]; simp
      have hjk:=I.qu j y hy hsy hwy
      have hkl:=I.le
      rcases Nat.lt_or_ge i j with q | q
      ·obtain ⟨⟨t2,ht2⟩,_⟩:=Zkj hs (show i + 1≤j by omega) (by omega) fun m y' a b => hnw m y' (by omega) (by omega)
       rw [ht2]; simp; omega
      ·have hjw : ∀ m y',j + 1≤m→m < i→l[m]? = some y'→isW y'.op = false:=by
        intro m y' hjm hmi hy'
        cases hwy' : isW y'.op with
        | false => rfl
        | true => exact absurd ⟨hwy',hsn,hw⟩ (hfree.pair m i y' io hmi hy' hio).2
       obtain ⟨⟨t2,ht2⟩,_⟩:=Zkj hs (show j + 1≤i by omega) (by omega) hjw
       have : (M i).b.length = (M (j + 1)).b.length + t2.length:=by rw [ht2]; simp
       omega
   | false =>
    obtain ⟨rfl,rfl⟩:=Zpq hsn hq
    rw [ZBm (h2:=(M k).mem) (p2:=0) hsn] at hq
    refine Zqm (ZgQ c1) (q_ok (I.L ▸ hL) I.env I.hr (fun _ _ q => q) I.g (I.L ▸ hF) c1 hq (fun x hx => by cases hx) (fun q => absurd rfl q) (fun b hb => by cases hb)) ?_
    rintro u w' ⟨S',rfl,ok,hv,hid⟩
    refine hK S' u k ok.le ok.below (stageQ hw ok.le hv ok.hr ?_)
    intro j y hy hsy hwy hji hlj hlen
    rw [hid _ (.inl rfl)]
    exact I.ids j y hy hsy hwy hlj hlen
 ·have hwant:=Zqz I.env c2 (hgv.trans hg)
  rw [hwant]
  simp only [Bool.false_eq_true,if_false]
  refine ⟨fun _ _ => trivial,?_⟩
  have hv : Rel S (V i) undef:=by rw [hv0]; simp [Rel,undef,RelL]
  cases hw : isW io.op with
  | true =>
   refine hK S undef (i + 1) (.refl S) (.refl _ _) (stageW hw (.refl S) hv ?_)
   rw [hm0,(hMk hw).2]; exact I.hr
  | false =>
   exact hK S undef k (.refl S) (.refl _ _) (stageQ hw (.refl S) hv I.hr fun j y hy hsy hwy hji hlj hlen => I.ids j y hy hsy hwy hlj hlen)
end
end Go.Cv
namespace Go.Cv
section
variable {C : CC} {A : Nat→Prop} {n0 : Nat} {G : Nat→Option (List AV)} {F : CallF} {ops : Array Oper} {l : List IOper}
theorem ZxP (a : Act) (d : Option Tmp) (u : Value) : (a.put d u).defers = a.defers:=by cases d <;> rfl
theorem ZqG {listed : Array Bool} (hsz : listed.size = ops.size) {i : Nat} :
  i ∈ Region.ready .any ops listed↔i < ops.size∧listed.getD i false = false∧∀ o,ops[i]? = some o→∀ e ∈ o.after,Region.binds .any e = true→listed.getD e.on false = true:=by
 unfold Region.ready
 rw [List.mem_filter,List.mem_range]
 constructor
 ·rintro ⟨hi,h⟩
  simp only [Bool.and_eq_true,Bool.not_eq_true'] at h
  obtain ⟨h1,h2⟩:=h
  refine ⟨hi,?_,fun o ho e he hb => ?_⟩
  ·rw [Array.getD_eq_getD_getElem?] at h1 ⊢
   rw [Array.getElem?_eq_getElem (by omega)] at h1 ⊢
   exact h1
  ·rw [ho] at h2
   simp only [Option.map_some,Option.getD_some] at h2
   have:=Array.all_eq_true_iff_forall_mem.1 h2 e he
   simpa [hb] using this
 ·rintro ⟨hi,h1,h2⟩
  refine ⟨hi,?_⟩
  simp only [Bool.and_eq_true,Bool.not_eq_true']
  refine ⟨?_,?_⟩
  ·rw [Array.getD_eq_getD_getElem?] at h1 ⊢
   rw [Array.getElem?_eq_getElem (by omega)] at h1 ⊢
   exact h1
  ·rw [Array.getElem?_eq_getElem hi]
   simp only [Option.map_some,Option.getD_some]
   refine Array.all_eq_true_iff_forall_mem.2 fun e he => ?_
   cases hb : Region.binds .any e with
   | false => rfl
   | true => simpa using h2 _ (Array.getElem?_eq_getElem hi) e he hb
def left (n : Nat) (ls : Nat→Bool) : Nat:=((List.range n).filter fun i => !ls i).length
theorem ZwC {n : Nat} {ls : Nat→Bool} {i : Nat} (hi : i < n) (hu : ls i = false) : left n (ins ls i) + 1≤left n ls:=by
 unfold left
 induction n with
 | zero => omega
 | succ n ih =>
  rw [List.range_succ,List.filter_append,List.filter_append,List.length_append,List.length_append]
  by_cases h : i = n
  ·subst h
   have h1 : (List.filter (fun j => !ins ls i j) (List.range i)) = List.filter (fun j => !ls j) (List.range i):=List.filter_congr fun j hj => by
    have:=List.mem_range.1 hj
    unfold ins; rw [if_neg (by omega)]
   rw [h1]
   simp [ins,hu]
  ·have:=ih (by omega)
   have h2 : ins ls i n = ls n:=by unfold ins; rw [if_neg (fun q => h q.symm)]
   simp only [List.filter_cons,h2,List.filter_nil]
   omega
theorem ZGy (hl : mapO (compOper C ops) ops.toList = some l) {E : Nat→Env} (hfree : Free ops l E) {M : Nat→Heap} {V : Nat→AV} (hs : Seq G F l E M V) {L : LK} (hL : Link C L) (hF : CallsOK C.P L G F)
  {Q : Exit→Act→World→Prop} {rr : Option Nat} {nn : Nat} {S0 : Sc} {df : List Deferred} (hQ : ∀ a' S',Ok A n0 S0 S' (M l.length).mem (M l.length).fz→EnvR S' C.N (E l.length) a'→a'.defers = df→Q .normal a' S'.w) :
  ∀ (fuel : Nat) (listed : Array Bool) (S : Sc) (a : Act) (k : Nat),listed.size = ops.size→left ops.size (fun i => listed.getD i false)≤fuel →
   Inv C A n0 ops l E M V L G (fun i => listed.getD i false) S a k→S0.Le S→Go.RowKit.Below n0 S0.w S.w→a.defers = df→wpAnyIn (Wf rr) nn C.P .any ops Q fuel listed a S.w:=by
 have hll : l.length = ops.size:=by rw [Zey hl]; simp
 have done : ∀ (listed : Array Bool) (S : Sc) (a : Act) (k : Nat),listed.size = ops.size→Region.ready .any ops listed = [] →
   Inv C A n0 ops l E M V L G (fun i => listed.getD i false) S a k→S0.Le S→Go.RowKit.Below n0 S0.w S.w→a.defers = df→Q .normal a S.w:=by
  intro listed S a k hsz hr I hle hbe hdf
  have all : ∀ i,i < ops.size→listed.getD i false = true:=by
   intro i
   induction i using Nat.strongRecOn with
   | _ i ih =>
    intro hi
    cases hli : listed.getD i false with
    | true => rfl
    | false =>
     have : i ∈ Region.ready .any ops listed:=(ZqG hsz).2 ⟨hi,hli,fun o ho e he hb => ih e.on (hfree.back i o ho e he hb) (by have:=hfree.back i o ho e he hb; omega)⟩
     rw [hr] at this; cases this
  have hM : M l.length = M k:=ZuF hs I.le (Nat.le_refl _) fun j y hkj hj hy => by
   cases hsy : sens y.op with
   | false => rfl
   | true =>
    exfalso
    cases hwy : isW y.op with
    | true => have:=(I.wr j y hy hwy).1 (all j (by omega)); omega
    | false => have:=I.qu j y hy hsy hwy; omega
  refine hQ a S ⟨hle,by rw [hM]; exact I.hr,hbe⟩ ⟨I.env.size,fun t => ?_⟩ hdf
  have:=I.env.get t
  rwa [Zth hs (Nat.le_refl _) fun j hj _ _ _ => all j (by omega)] at this
 have step : ∀ (fuel : Nat) (listed : Array Bool) (S : Sc) (a : Act) (k : Nat),listed.size = ops.size→left ops.size (fun i => listed.getD i false)≤fuel + 1 →
   Inv C A n0 ops l E M V L G (fun i => listed.getD i false) S a k→S0.Le S→Go.RowKit.Below n0 S0.w S.w→a.defers = df →
   (∀ (listed' : Array Bool) (S' : Sc) (a' : Act) (k' : Nat),listed'.size = ops.size→left ops.size (fun i => listed'.getD i false)≤fuel →
    Inv C A n0 ops l E M V L G (fun i => listed'.getD i false) S' a' k'→S0.Le S'→Go.RowKit.Below n0 S0.w S'.w→a'.defers = df→wpAnyIn (Wf rr) nn C.P .any ops Q fuel listed' a' S'.w) →
   ∀ i ∈ Region.ready .any ops listed,wpOpIn (Wf rr) nn C.P ops Q i (wpAnyIn (Wf rr) nn C.P .any ops Q fuel (listed.setIfInBounds i true)) a S.w:=by
  intro fuel listed S a k hsz hfu I hle hbe hdf ih i hi
  obtain ⟨h1,h2,h3⟩:=(ZqG hsz).1 hi
  refine ZBG hl hfree hs hL hF I (by omega) h2 h3 fun S' u k' le be I' => ?_
  have hfn : (fun j => (listed.setIfInBounds i true).getD j false) = ins (fun j => listed.getD j false) i:=by
   funext j
   unfold ins
   by_cases hj : j = i
   ·subst hj
    rw [if_pos rfl,Array.getD_eq_getD_getElem?,Array.getElem?_setIfInBounds_self_of_lt (by omega)]; rfl
   ·rw [if_neg hj,Array.getD_eq_getD_getElem?,Array.getElem?_setIfInBounds_ne (fun q => hj q.symm),← Array.getD_eq_getD_getElem?]
  refine ih _ S' _ k' (by simpa using hsz) ?_ (by rw [hfn]; exact I') (hle.trans le) (hbe.trans be) (by rw [ZxP]; exact hdf)
  rw [hfn]
  have:=ZwC (ls:=fun j => listed.getD j false) h1 h2
  omega
 intro fuel
 induction fuel with
 | zero =>
  intro listed S a k hsz hfu I hle hbe hdf
  have hr : Region.ready .any ops listed = []:=by
   apply List.eq_nil_iff_forall_not_mem.2
   intro i hi
   obtain ⟨h1,h2,h3⟩:=(ZqG hsz).1 hi
   have:=ZwC (ls:=fun j => listed.getD j false) h1 h2
   omega
  exact ⟨hr,done listed S a k hsz hr I hle hbe hdf⟩
 | succ fuel ih =>
  intro listed S a k hsz hfu I hle hbe hdf
  exact ⟨fun hr => done listed S a k hsz hr I hle hbe hdf,step fuel listed S a k hsz hfu I hle hbe hdf ih⟩
theorem ZEt (hm : C.P.follows .mixedOrders = true) (hl : mapO (compOper C ops) ops.toList = some l) {chk : List (Nat × Nat)} (hdr : drawOk ops l chk = true) {S : Sc} (hL : Link C S.L) (hF : CallsOK C.P S.L G F) {Q : Exit→Act→World→Prop} {rr : Option Nat} {nn : Nat} {h h' : Heap} {e e' : Env} {a : Act} {id : Nat}
  (hev : evOps G F l e h = some (e',h')) (hchk : chkOk e' l chk = true) (hE : EnvR S C.N e a) (H : HR A n0 S h.mem h.fz) (hG : Gok G S)
  (hQ : ∀ a' S',Ok A n0 S S' h'.mem h'.fz→EnvR S' C.N e' a'→a'.defers = a.defers→Q .normal a' S'.w) : (Code.region id ops true).wpIn (Wf rr) nn C.P Q a S.w:=by
 refine wpIn_region_any hm ?_
 obtain ⟨E,M,V,hE0,hM0,hEn,hMn,hs⟩:=ZDB hev
 have hll : l.length = ops.size:=by rw [Zey hl]; simp
 have hfree:=ZEB hdr hs (by rw [hEn]; exact hchk)
 have dr:=Ok.drew H
 -- the first write
 obtain ⟨k,hkl,hk1,hk2⟩ : ∃ k,k≤l.length∧(∀ j io,j < k→l[j]? = some io→isW io.op = false)∧(∀ io,l[k]? = some io→isW io.op = true):=by
  have : ∀ (l : List IOper),∃ k,k≤l.length∧(∀ (j : Nat) (io : IOper),j < k→l[j]? = some io→isW io.op = false)∧(∀ (io : IOper),l[k]? = some io→isW io.op = true):=by
   intro l
   induction l with
   | nil => exact ⟨0,Nat.le_refl _,fun j io hj => by omega,fun io hio => by simp at hio⟩
   | cons x l ih =>
    cases hx : isW x.op with
    | true => exact ⟨0,by simp,fun j io hj => by omega,fun io hio => by simp at hio; subst hio; exact hx⟩
    | false =>
     obtain ⟨k,h1,h2,h3⟩:=ih
     refine ⟨k + 1,by simpa using h1,fun j io hj hio => ?_,fun io hio => h3 io (by simpa using hio)⟩
     cases j with
     | zero => simp at hio; subst hio; exact hx
     | succ j => exact h2 j io (by omega) (by simpa using hio)
  exact this l
 obtain ⟨⟨t,ht⟩,hf⟩:=Zkj hs (Nat.zero_le k) hkl fun j io _ hj hio => hk1 j io hj hio
 have hS : (S.at S.w.drew).w = S.w.drew:=rfl
 have hls : (fun i => (Array.replicate ops.size false).getD i false) = fun _ => false:=by
  funext i
  rw [Array.getD_eq_getD_getElem?,Array.getElem?_replicate]
  split <;> rfl
 have hsel : selE l V (fun _ => false) (E 0) l.length = E 0:=by
  generalize l.length = n
  induction n with
  | zero => rfl
  | succ n ih => simp only [selE]; exact ih
 have I : Inv C A n0 ops l E M V S.L G (fun i => (Array.replicate ops.size false).getD i false) (S.at S.w.drew) a k:=by
  rw [hls]
  refine ⟨fun i hi => Bool.noConfusion hi,rfl,?_,hkl,?_,?_,?_,?_,hG.mono dr.le⟩
  ·rw [hsel,hE0]; exact hE.mono dr.le
  ·refine dr.hr.ext (fun b i hi => ?_) (fun b hb => hf b (by rw [hM0]; exact hb))
   obtain ⟨x,hx⟩:=dr.hr.dom b i hi
   show (M k).b[b]? = h.b[b]?
   rw [ht,hM0,List.getElem?_append_left (List.getElem?_eq_some_iff.1 hx).1]
  ·intro i io hio hw
   refine ⟨fun q => Bool.noConfusion q,fun _ => ?_⟩
   rcases Nat.lt_or_ge i k with q | q
   ·rw [hk1 i io q hio] at hw; cases hw
   ·exact q
  ·intro i io hio hsn hw
   rcases Nat.lt_or_ge i k with q | q
   ·exact q
   ·exfalso
    have hlt:=(List.getElem?_eq_some_iff.1 hio).1
    have hk:=hk2 l[k] (List.getElem?_eq_getElem (by omega))
    rcases Nat.lt_or_ge k i with r | r
    ·exact (hfree.pair k i l[k] io r (List.getElem?_eq_getElem (by omega)) hio).2 ⟨hk,hsn,hw⟩
    ·have : k = i:=by omega
     subst this
     rw [hk2 io hio] at hw; cases hw
  ·intro i io hio hsn hw _ hlen
   have hik : i≤k:=by
    rcases Nat.lt_or_ge k i with q | q
    ·have hlt:=(List.getElem?_eq_some_iff.1 hio).1
     exact absurd ⟨hk2 l[k] (List.getElem?_eq_getElem (by omega)),hsn,hw⟩ (hfree.pair k i l[k] io q (List.getElem?_eq_getElem (by omega)) hio).2
    ·exact q
   obtain ⟨⟨t2,ht2⟩,_⟩:=Zkj hs (Nat.zero_le i) (by omega) fun j io _ hj hio => hk1 j io (by omega) hio
   exact Zsu dr.hr (by rw [ht2,hM0]; simp)
 have hdone:=ZGy (rr:=rr) (nn:=nn) hl hfree hs hL hF (S0:=S.at S.w.drew) (df:=a.defers) (Q:=Q) (fun a' S' ok hE' hd => hQ a' S' (dr.trans (by rw [hMn] at ok; exact ok)) (by rw [hEn] at hE'; exact hE') hd)
  ops.size (Array.replicate ops.size false) (S.at S.w.drew) a k (by simp) (by unfold left; exact Nat.le_trans (List.length_filter_le _ _) (by simp)) I (.refl _) (.refl _ _) rfl
 exact hdone
end
end Go.Cv
namespace Go.Cv
def exOf : Ex→Exit
 | .norm => .normal
 | .ret => .ret
 | .exit id => .exit id
theorem Zzd (l : List Nat) (e : Env) (t : Nat) : getE (keepE l e) t = if t ∈ l then getE e t else .undef:=by
 unfold keepE
 induction l with
 | nil => simp [getE]
 | cons x l ih =>
  simp only [List.map_cons,getE,ih,List.mem_cons]
  by_cases h : t = x
  ·subst h; simp
  ·simp [h]
theorem ZtP {S : Sc} {N : Nat} {e : Env} {a : Act} (h : EnvR S N e a) (l : List Nat) : EnvR S N (keepE l e) a :=
 ⟨h.size,fun t => by
  rw [Zzd]
  split
  ·exact h.get t
  ·simp [Rel]⟩
def markD (D : Nat) : Deferred:={ target:=.collected D,args:=#[] }
structure Marks (k : Nat) (S : Sc) (Ds : List Nat) : Prop where
 nd : Ds.Nodup
 at_ : ∀ D ∈ Ds,k≤D∧S.ro D∧S.w.heap[D]? = some (.deferred (some []))
theorem Marks.nil (k : Nat) (S : Sc) : Marks k S []:=⟨List.nodup_nil,fun D h => by cases h⟩
theorem Marks.append {k : Nat} {S S' : Sc} {Ds Ds' : List Nat} (h : Marks k S Ds) (hle : S.Le S') (hk : k≤S.w.heap.size) (h' : Marks S.w.heap.size S' Ds') : Marks k S' (Ds' ++ Ds):=by
 refine ⟨List.nodup_append.2 ⟨h'.nd,h.nd,fun x hx y hy e => ?_⟩,fun D hD => ?_⟩
 ·subst e
  have h1:=(h'.at_ x hx).1
  have h2:=Zha (h.at_ x hy).2.2
  omega
 ·rcases List.mem_append.1 hD with hD | hD
  ·obtain ⟨x,y,z⟩:=h'.at_ D hD
   exact ⟨by omega,y,z⟩
  ·obtain ⟨x,y,z⟩:=h.at_ D hD
   exact ⟨x,hle.ro D y,(hle.cells D y).trans z⟩
theorem HR.swap {A : Nat→Prop} {n0 : Nat} {S S' : Sc} {hp : Mem} {fz : Nat→Prop} (H : HR A n0 S hp fz) (hι : S'.ι = S.ι) (hro : ∀ r,S'.ro r→S.ro r∨(n0≤r∧r < S'.w.heap.size∧∀ c e p,S.w.heap[r]?≠some (Obj.cells c e p))) (hsz : S.w.heap.size≤S'.w.heap.size)
  (hcell : ∀ (r : Nat) (c : Array Value) (e : TypeId) (p : Nat × Nat),S.w.heap[r]? = some (Obj.cells c e p)→S'.w.heap[r]? = S.w.heap[r]?) (hlw : S.ny.Lw S'.ny) : HR A n0 S' hp fz:=by
 refine ⟨fun b k i hb hi => ?_,fun b i hi => ?_,fun b b' k k' i i' hb hb' hi hi' => ?_,fun r hr => ?_,Nat.le_trans H.old hsz⟩
 ·rw [hι] at hi
  obtain ⟨B1,B2,B3,⟨c,e,B4,B4'⟩,B5⟩:=H.blk b k i hb hi
  have hq:=hcell _ _ _ _ B4
  refine ⟨B1,B2,B3,⟨c,e,hq.trans B4,B4'⟩,fun hd => Zam.2 fun j v hj => ?_⟩
  obtain ⟨u,x,y,z⟩:=Zam.1 (B5 hd) j v hj
  exact ⟨u,by rw [← x]; exact World.cell?_of_block hq,y,Rel.gmono hlw v u z⟩
 ·rw [hι] at hi; exact H.dom b i hi
 ·rw [hι] at hi hi'; exact H.inj b b' k k' i i' hb hb' hi hi'
 ·rcases hro r hr with q | ⟨q1,q2,q3⟩
  ·obtain ⟨x,y,z⟩:=H.ro r q
   exact ⟨by omega,y,fun b k i hb hi => by rw [hι] at hi; exact z b k i hb hi⟩
  ·refine ⟨q2,fun h => by omega,fun b k i hb hi hd hz he => ?_⟩
   rw [hι] at hi
   obtain ⟨c,e,B4,_⟩:=(H.blk b k i hb hi).row
   exact q3 c e _ (he ▸ B4)
theorem ZtC {n0 : Nat} {w w' : World} (h : Go.RowKit.Below n0 w w') {l : Nat} (hl : n0≤l) (o : Obj) : Go.RowKit.Below n0 w (w'.putObj l o) :=
 h.trans ⟨rfl,rfl,rfl,by simp,fun k hk => World.putObj_heap_other (by omega)⟩
theorem ZnN {w : World} {r : Nat} {o : Obj} (h : w.heap[r]? = some o) (ho : ∀ c e p,o≠Obj.cells c e p) : ∀ i,w.cell? ⟨r,i,none⟩ = none:=by
 intro i
 unfold World.cell?
 rw [h]
 cases o <;> first | rfl | exact absurd rfl (ho _ _ _)
theorem Sc.Lw.trans {a b c : Sc} (h : a.Lw b) (k : b.Lw c) : a.Lw c :=
 ⟨k.f.trans h.f,fun p x => k.y p (h.y p x),fun r x => by
  rcases h.ro r x with ⟨y,z⟩ | y
  ·rcases k.ro r y with ⟨u,v⟩ | u
   ·exact .inl ⟨u,v.trans z⟩
   ·exact .inr fun o => by rw [← u o]; exact (World.cell?_of_block z).symm
  ·exact .inr y,fun p i x => k.ι p i (h.ι p i x)⟩
theorem ZBd {A : Nat→Prop} {n0 : Nat} {S0 S : Sc} {hp : Mem} {fz : Nat→Prop} (hn : n0≤S0.w.heap.size) (h0 : ∀ r,S0.ro r→r < S0.w.heap.size) (ok : Ok A n0 S0 S hp fz) {D : Nat} (hD : S0.w.heap.size≤D) (hr : S.ro D) (hh : S.w.heap[D]? = some (.deferred (some []))) :
  ∃ S',S'.w = S.w.putObj D (.deferred none)∧Ok A n0 S0 S' hp fz∧S.Lw S'∧(∀ r,S.ro r→r≠D→S'.ro r):=by
 have hoth : ∀ {r : Nat},r≠D→(S.w.putObj D (.deferred none)).heap[r]? = S.w.heap[r]?:=fun h => World.putObj_heap_other h
 have hlw : S.Lw { S with w:=S.w.putObj D (.deferred none),ro:=fun r => S.ro r∧r≠D }:=by
  refine ⟨rfl,fun p x => x,fun r hr => ?_,fun b i x => x⟩
  by_cases h : r = D
  ·subst h; exact .inr (ZnN hh (by simp))
  ·exact .inl ⟨⟨hr,h⟩,hoth h⟩
 refine ⟨{ S with w:=S.w.putObj D (.deferred none),ro:=fun r => S.ro r∧r≠D },rfl,⟨⟨ok.le.L,fun r x => ⟨ok.le.ro r x,?_⟩,fun r x => (hoth ?_).trans (ok.le.cells r x),ok.le.ι⟩,?_,ZtC ok.below (by omega) _⟩,hlw,fun r a b => ⟨a,b⟩⟩
 ·have:=h0 r x; omega
 ·have:=h0 r x; omega
 ·refine ok.hr.swap rfl (fun r h => .inl h.1) (by simp) (fun r c e p h => hoth fun q => ?_) hlw.ny
  subst q; rw [hh] at h; cases h
theorem ZlG {P : Program} {F : Fence} {n : Nat} {fn : Func} {tmps : Array Value} {R : Ending→World→Prop} {A : Nat→Prop} {n0 : Nat} {S0 : Sc} {hp : Mem} {fz : Nat→Prop} (hn : n0≤S0.w.heap.size) (h0 : ∀ r,S0.ro r→r < S0.w.heap.size) :
  ∀ (Ds : List Nat) (S : Sc),Ok A n0 S0 S hp fz→Marks S0.w.heap.size S Ds→(∀ S',Ok A n0 S0 S' hp fz→S.Lw S'→(∀ r,S.ro r→r ∉ Ds→S'.ro r)→LeavesIn F n P fn tmps R [] .returning S'.w)→LeavesInM F n P fn tmps R (Ds.map markD) .returning S.w
 | [],S,ok,_,h => h S ok ⟨rfl,fun _ x => x,fun r x => .inl ⟨x,rfl⟩,fun _ _ x => x⟩ fun r x _ => x
 | D :: Ds,S,ok,hm,h => by
  obtain ⟨q1,q2,q3⟩:=hm.at_ D (List.mem_cons_self ..)
  obtain ⟨S1,hw,ok1,hlw,hro⟩:=ZBd hn h0 ok q1 q2 q3
  obtain ⟨hnm,hnd⟩:=List.nodup_cons.1 hm.nd
  refine ⟨by simp,.inl ⟨D,S.w.putObj D (.deferred none),rfl,run_takeDeferred q3,?_⟩⟩
  rw [← hw]
  refine ZlG hn h0 Ds S1 ok1 ⟨hnd,fun d hd => ?_⟩ fun S' ok' hlw' hro' => h S' ok' ?_ ?_
  ·obtain ⟨x,y,z⟩:=hm.at_ d (List.mem_cons_of_mem _ hd)
   have hne : d≠D:=fun q => hnm (q ▸ hd)
   exact ⟨x,hro d y hne,by rw [hw,World.putObj_heap_other hne]; exact z⟩
  ·exact hlw.trans hlw'
  ·intro r hr hne
   exact hro' r (hro r hr fun q => hne (q ▸ List.mem_cons_self ..)) fun q => hne (List.mem_cons_of_mem _ q)
section
variable {P : Program} {L : LK} {G : Nat→Option (List AV)} {T : Tbl}
def CodeOK (P : Program) (L : LK) (G : Nat→Option (List AV)) (E : IC→Env→Heap→Option (Ex × Env × Heap)) : Prop :=
 ∀ (C : CC),C.P = P→Link C L→∀ (rr : Option Nat) (nn : Nat),(C.inr = false→rr = none)→∀ (c : Code) (ic : IC),compC C c = some (erase ic)→∀ (e : Env) (h : Heap) (x : Ex) (e' : Env) (h' : Heap),E ic e h = some (x,e',h') →
  ∀ (A : Nat→Prop) (n0 : Nat) (S : Sc) (a : Act),S.L = L→EnvR S C.N e a→HR A n0 S h.mem h.fz→Gok G S →
  ∀ (Q : Exit→Act→World→Prop),(∀ a' S' Ds,Ok A n0 S S' h'.mem h'.fz→EnvR S' C.N e' a'→a'.defers = Ds.map markD ++ a.defers→Marks S.w.heap.size S' Ds→Q (exOf x) a' S'.w)→c.wpIn (Wf rr) nn P Q a S.w
def LoopOK (P : Program) (L : LK) (G : Nat→Option (List AV)) (E : IC→Env→Heap→Option (Ex × Env × Heap)) (k : Nat) : Prop :=
 ∀ (C : CC),C.P = P→Link C L→∀ (rr : Option Nat) (nn : Nat),(C.inr = false→rr = none)→∀ (c : Code) (keep : List Nat) (ic : IC),compC C c = some (erase ic)→∀ (e : Env) (h : Heap) (x : Ex) (e' : Env) (h' : Heap),E (.loop keep ic) e h = some (x,e',h') →
  ∀ (A : Nat→Prop) (n0 : Nat) (S : Sc) (a : Act),S.L = L→EnvR S C.N e a→HR A n0 S h.mem h.fz→Gok G S →
  ∀ (Q : Exit→Act→World→Prop),(∀ a' S' Ds,Ok A n0 S S' h'.mem h'.fz→EnvR S' C.N e' a'→a'.defers = Ds.map markD ++ a.defers→Marks S.w.heap.size S' Ds→Q (exOf x) a' S'.w)→Code.roundsIn (Wf rr) nn P c Q k a S.w
def XOK (P : Program) (L : LK) (G : Nat→Option (List AV)) (X : XF) : Prop :=
 ∀ (args : List AV) (h : Heap) (r : AV) (h' : Heap),X args h = some (r,h')→∀ (A : Nat→Prop) (n0 : Nat) (S : Sc) (us : List Value) (b : YB),S.L = L→L.y = some b→HR A n0 S h.mem h.fz →
  Gok G S→RelL S args us→∃ f tmps assign body,(Instr.yield b.l us.toArray).run P S.w = .ok (.round b.l f tmps assign body) S.w∧∀ n,RoundIn Fence.wide n P b.l f tmps assign body S.w fun e w' => ∃ u,e = .returned u∧Res A n0 S r h'.mem h'.fz u w'
theorem Zxs {P : Program} {L : LK} {G : Nat→Option (List AV)} : XOK P L G noX:=fun _ _ _ _ h => by cases h
theorem ZAu {P : Program} {Q : Exit→Act→World→Prop} {K : Act→World→Prop} {x : Ex} {a : Act} {w : World} (h : x≠.norm→Q (exOf x) a w) (k : x = .norm→K a w) : Exit.then K Q (exOf x) a w:=by
 cases x
 ·exact k rfl
 ·exact h (by simp)
 ·exact h (by simp)
def RangeOK (P : Program) (L : LK) (G : Nat→Option (List AV)) (T : Tbl) (k : Nat) : Prop :=
 ∀ (C : CC),C.P = P→Link C L→∀ (nn : Nat) (g : Operand) (ps : Array Tmp) (p q : Code) (ig : IOpd) (ia ib : IC),(C.inr = false∧ps.toList.all (fun p => decide (p < C.N)) = true)→compOpd C g = some ig→compC { C with inr:=true } p = some (erase ia)→compC { C with inr:=true } q = some (erase ib) →
  ∀ (X : XF) (e : Env) (h : Heap) (x : Ex) (e' : Env) (h' : Heap),ev G T (k + 1) X (.rangeF ig ps.toList ia ib) e h = some (x,e',h') →
  ∀ (A : Nat→Prop) (n0 : Nat) (S : Sc) (a : Act),S.L = L→EnvR S C.N e a→HR A n0 S h.mem h.fz→Gok G S →
  ∀ (Q : Exit→Act→World→Prop),(∀ a' S' Ds,Ok A n0 S S' h'.mem h'.fz→EnvR S' C.N e' a'→a'.defers = Ds.map markD ++ a.defers→Marks S.w.heap.size S' Ds→Q (exOf x) a' S'.w)→(Code.rangeFunc g ps p q).wpIn (Wf none) nn P Q a S.w
theorem ZyB (hm : P.follows .mixedOrders = true) {k : Nat} {X : XF} (hF : CallsOK P L G (callB G T X (ev G T k noX))) (ih : CodeOK P L G (ev G T k X)) (ihl : LoopOK P L G (ev G T k X) k)
  (hRF : RangeOK P L G T k) : CodeOK P L G (ev G T (k + 1) X)∧LoopOK P L G (ev G T (k + 1) X) (k + 1):=by
 have lp : LoopOK P L G (ev G T (k + 1) X) (k + 1):=by
  intro C hP hL rr nn hrr c keep ic hc e h x e' h' hev A n0 S a hSL hE H hG Q hQ
  rw [Zqs] at hev
  cases hb : ev G T k X ic (keepE keep e) h with
  | none => rw [hb] at hev; cases hev
  | some r =>
   obtain ⟨y,e1,h1⟩:=r
   rw [hb,Option.bind_some] at hev
   rw [roundsIn_succ]
   refine ih C hP hL rr nn hrr c ic hc _ h y e1 h1 hb A n0 S a hSL (ZtP hE keep) H hG _ fun a1 S1 Ds1 ok1 hE1 hd1 hm1 => ?_
   refine ZAu (P:=P) (fun hy => ?_) (fun hy => ?_)
   ·have : thenB (ev G T k X (.loop keep ic)) (y,e1,h1) = some (y,e1,h1):=by cases y <;> first | rfl | exact absurd rfl hy
    rw [this] at hev
    simp only [Option.some.injEq,Prod.mk.injEq] at hev
    obtain ⟨rfl,rfl,rfl⟩:=hev
    exact hQ a1 S1 Ds1 ok1 hE1 hd1 hm1
   ·subst hy
    exact ihl C hP hL rr nn hrr c keep ic hc e1 h1 x e' h' hev A n0 S1 a1 (ok1.le.L.trans hSL) hE1 ok1.hr (hG.mono ok1.le) Q fun a2 S2 Ds2 ok2 hE2 hd2 hm2 => hQ a2 S2 (Ds2 ++ Ds1) (ok1.trans ok2) hE2 (by rw [hd2,hd1,List.map_append,List.append_assoc]) (hm1.append ok2.le ok1.below.size hm2)
 refine ⟨?_,lp⟩
 intro C hP hL rr nn hrr c ic hc e h x e' h' hev A n0 S a hSL hE H hG Q hQ
 cases c <;> simp only [compC,reduceCtorEq,Option.map_eq_some_iff] at hc
 case skip =>
  cases ic <;> simp only [erase,Option.some.injEq,reduceCtorEq] at hc
  cases hev; exact wpIn_skip (hQ a S [] (.refl H) hE rfl (.nil _ _))
 case ret =>
  cases ic <;> simp only [erase,Option.some.injEq,reduceCtorEq] at hc
  cases hev; exact wpIn_ret (hQ a S [] (.refl H) hE rfl (.nil _ _))
 case exit id =>
  cases ic <;> simp only [erase,Option.some.injEq,reduceCtorEq,IC.exit.injEq] at hc
  subst hc
  cases hev; exact wpIn_exit (hQ a S [] (.refl H) hE rfl (.nil _ _))
 case region id ops draw =>
  have go : ∀ {l : List IOper} {keep : List Nat} {chk : List (Nat × Nat)},mapO (compOper C ops) ops.toList = some l→(draw = true→drawOk ops l chk = true)→ev G T (k + 1) X (.reg l keep chk) e h = some (x,e',h')→(Code.region id ops draw).wpIn (Wf rr) nn P Q a S.w:=by
   intro l keep chk hl hd hev
   rw [ZtU] at hev
   cases hb : evOps G (callB G T X (ev G T k noX)) l e h with
   | none => rw [hb] at hev; cases hev
   | some r =>
    obtain ⟨e1,h1⟩:=r
    rw [hb] at hev
    simp only [Option.bind_some] at hev
    split at hev
    ·next hck =>
     simp only [Option.some.injEq,Prod.mk.injEq] at hev
     obtain ⟨rfl,rfl,rfl⟩:=hev
     subst hP
     have hQ' : ∀ a' S',Ok A n0 S S' h1.mem h1.fz→EnvR S' C.N e1 a'→a'.defers = a.defers→Q .normal a' S'.w:=fun a' S' ok hE' hdf => hQ a' S' [] ok (ZtP hE' keep) hdf (.nil _ _)
     cases draw with
     | false => exact ZzM hl (hSL ▸ hL) (hSL ▸ hF) hb hE H hG hQ'
     | true => exact ZEt hm hl (hd rfl) (hSL ▸ hL) (hSL ▸ hF) hb hck hE H hG hQ'
    ·cases hev
  split at hc
  ·next l hl =>
   split at hc
   ·next hdr =>
    split at hc
    ·next hd =>
     cases ic <;> simp only [erase,Option.some.injEq,reduceCtorEq,IC.reg.injEq] at hc
     obtain ⟨rfl,_,rfl⟩:=hc
     exact go hl (fun _ => hd) hev
    ·cases ic <;> simp only [erase,Option.some.injEq,reduceCtorEq] at hc
     cases hev
   ·next hdr =>
    cases ic <;> simp only [erase,Option.some.injEq,reduceCtorEq,IC.reg.injEq] at hc
    obtain ⟨rfl,_,rfl⟩:=hc
    exact go hl (fun q => absurd q hdr) hev
  ·cases ic <;> simp only [erase,Option.some.injEq,reduceCtorEq] at hc
   cases hev
 case seq p q =>
  split at hc
  ·next ip iq hp hq =>
   cases ic <;> simp only [erase,Option.some.injEq,reduceCtorEq,IC.seq.injEq] at hc
   rename_i ia ib
   obtain ⟨rfl,rfl⟩:=hc
   rw [ZrQ] at hev
   cases hb : ev G T k X ia e h with
   | none => rw [hb] at hev; cases hev
   | some r =>
    obtain ⟨y,e1,h1⟩:=r
    rw [hb,Option.bind_some] at hev
    refine wpIn_seq (ih C hP hL rr nn hrr p ia hp e h y e1 h1 hb A n0 S a hSL hE H hG _ fun a1 S1 Ds1 ok1 hE1 hd1 hm1 => ?_)
    refine ZAu (P:=P) (fun hy => ?_) (fun hy => ?_)
    ·have : thenB (ev G T k X ib) (y,e1,h1) = some (y,e1,h1):=by cases y <;> first | rfl | exact absurd rfl hy
     rw [this] at hev
     simp only [Option.some.injEq,Prod.mk.injEq] at hev
     obtain ⟨rfl,rfl,rfl⟩:=hev
     exact hQ a1 S1 Ds1 ok1 hE1 hd1 hm1
    ·subst hy
     exact ih C hP hL rr nn hrr q ib hq e1 h1 x e' h' hev A n0 S1 a1 (ok1.le.L.trans hSL) hE1 ok1.hr (hG.mono ok1.le) Q fun a2 S2 Ds2 ok2 hE2 hd2 hm2 => hQ a2 S2 (Ds2 ++ Ds1) (ok1.trans ok2) hE2 (by rw [hd2,hd1,List.map_append,List.append_assoc]) (hm1.append ok2.le ok1.below.size hm2)
  ·cases hc
 case cond co p q =>
  split at hc
  ·next io ip iq ho hp hq =>
   cases ic <;> simp only [erase,Option.some.injEq,reduceCtorEq,IC.cond.injEq] at hc
   rename_i oc ia ib
   obtain ⟨rfl,rfl,rfl⟩:=hc
   rw [Zqr] at hev
   have hr:=Zar (hSL ▸ hL) hE ho
   cases hv : opd e io <;> rw [hv] at hev hr <;> simp only [reduceCtorEq] at hev
   case bool t =>
    simp only [Rel] at hr
    cases t
    ·exact wpIn_cond_false hr (ih C hP hL rr nn hrr q ib hq e h x e' h' (by simpa using hev) A n0 S a hSL hE H hG Q hQ)
    ·exact wpIn_cond_true hr (ih C hP hL rr nn hrr p ia hp e h x e' h' (by simpa using hev) A n0 S a hSL hE H hG Q hQ)
  ·cases hc
 case block id p =>
  obtain ⟨ip,hp,hc⟩:=hc
  cases ic <;> simp only [erase,reduceCtorEq,IC.block.injEq] at hc
  rename_i id' ia
  obtain ⟨rfl,rfl⟩:=hc
  rw [ZnS] at hev
  cases hb : ev G T k X ia e h with
  | none => rw [hb] at hev; cases hev
  | some r =>
   obtain ⟨y,e1,h1⟩:=r
   rw [hb] at hev
   simp only [Option.bind_some,Option.some.injEq,Prod.mk.injEq] at hev
   obtain ⟨rfl,rfl,rfl⟩:=hev
   refine wpIn_block (ih C hP hL rr nn hrr p ia hp e h y e1 h1 hb A n0 S a hSL hE H hG _ fun a1 S1 Ds1 ok1 hE1 hd1 hm1 => ?_)
   have hq1:=hQ a1 S1 Ds1 ok1 hE1 hd1 hm1
   cases y with
   | norm => exact hq1
   | ret => exact hq1
   | exit j =>
    simp only [Ex.inBlock] at hq1
    simp only [exOf,Exit.inBlock]
    split at hq1
    ·next hj => subst hj; simpa [exOf] using hq1
    ·next hj => simpa [hj,exOf] using hq1
 case loop p =>
  obtain ⟨ip,hp,hc⟩:=hc
  cases ic <;> simp only [erase,reduceCtorEq,IC.loop.injEq] at hc
  rename_i keep ia
  obtain ⟨_,rfl⟩:=hc
  exact wpIn_loop_rounds (k + 1) (lp C hP hL rr nn hrr p keep ia hp e h x e' h' hev A n0 S a hSL hE H hG Q hQ)
 case rangeFunc g ps p q =>
  split at hc
  ·next hin =>
   split at hc
   ·next ig ip iq hg hp hq =>
    cases ic <;> simp only [erase,Option.some.injEq,reduceCtorEq,IC.rangeF.injEq] at hc
    rename_i g' ps' ia ib
    obtain ⟨rfl,rfl,rfl,rfl⟩:=hc
    have hr:=hrr hin.1
    subst hr
    exact hRF C hP hL nn g ps p q _ ia ib hin hg hp hq X e h x e' h' hev A n0 S a hSL hE H hG Q hQ
   ·cases hc
  ·cases hc
theorem ZDk {S : Sc} {N : Nat} : ∀ (ps : List Nat) (vs : List AV) (us : List Value) (e : Env) (a : Act),ps.all (fun p => decide (p < N)) = true→vs.length = ps.length→RelL S vs us→EnvR S N e a →
  EnvR S N (setPs ps vs e) { tmps:=(ps.zip us).foldl (fun tm x => tm.setIfInBounds x.1 x.2) a.tmps,defers:=[] }
 | [],vs,us,e,a,_,_,_,hE => by
  rw [List.zip_nil_left]
  unfold setPs
  exact ⟨hE.size,hE.get⟩
 | p :: ps,[],us,e,a,_,hl,_,_ => by simp at hl
 | p :: ps,v :: vs,us,e,a,hp,hl,hu,hE => by
  simp only [RelL] at hu
  obtain ⟨u,r,rfl,h1,h2⟩:=hu
  simp only [List.all_cons,Bool.and_eq_true,decide_eq_true_eq] at hp
  have h3:=ZDk ps vs r (putE (some p) v e) (a.put (some p) u) hp.2 (by simpa using hl) h2 (ZpE hE (fun t ht => by cases ht; exact hp.1) h1)
  rw [List.zip_cons_cons,List.foldl_cons]
  exact h3
theorem Rel.downV {S : Sc} {v : AV} {u : Value} (hv : okV v = true) (h : Rel S v u) : Rel S.ny v u:=by
 cases v
 case agg cs =>
  simp only [Rel] at h ⊢
  obtain ⟨us,e,h⟩:=h
  exact ⟨us,e,RelL.down hv h⟩
 all_goals exact Rel.down (by simpa [okV,cellsA] using hv) h
theorem RelL.downV {S : Sc} : ∀ {vs : List AV} {us : List Value},vs.all okV = true→RelL S vs us→RelL S.ny vs us
 | [],us,_,h => by simpa only [RelL] using h
 | v :: vs,us,hv,h => by
  simp only [RelL] at h ⊢
  simp only [List.all_cons,Bool.and_eq_true] at hv
  obtain ⟨u,r,e,h1,h2⟩:=h
  exact ⟨u,r,e,Rel.downV hv.1 h1,RelL.downV hv.2 h2⟩
theorem Link.of {C : CC} {L L' : LK} (h : Link C L) (hf : L'.f = L.f) : Link C L':=⟨fun g f x => by rw [hf]; exact h.to g f x,fun f g x => by rw [hf] at x; exact h.fn f g x⟩
theorem Link.inr {C : CC} {L : LK} (h : Link C L) : Link { C with inr:=true } L:=⟨h.to,h.fn⟩
theorem ZCm {k : Nat} (ihN : CodeOK P L G (ev G T k noX)) {C : CC} (hCP : C.P = P) (hLC : Link C L) {ps : Array Tmp} {p q : Code} {ia ib : IC} (hps : ps.toList.all (fun p => decide (p < C.N)) = true)
  (hp : compC { C with inr:=true } p = some (erase ia)) (hq : compC { C with inr:=true } q = some (erase ib)) {S : Sc} (hSL : S.L = L) {e : Env} {a : Act} (hE : EnvR S C.N e a) (hG : Gok G S)
  {b : YB} {fnId : FuncId} {D : Nat} (hbr : b.r = { state:=.ready,pending:=none,fn:=fnId,tmps:=a.tmps,params:=ps,assign:=p,body:=q,defers:=D })
  (hbro : ∀ r,S.ro r→b.ro r) (hbh : ∀ r,S.ro r→b.hp r = S.w.heap[r]?) (hbι : b.ι = S.ι) (hl : ¬ S.ro b.l) :
  XOK P ⟨L.f,some b⟩ G (roundB (ev G T k noX) ps.toList (.seq ia ib) e):=by
 intro args h r h' hX A n0 S' us b' hL' hy H hG' hu
 simp only [Option.some.injEq] at hy
 subst hy
 unfold roundB at hX
 split at hX
 case isFalse => cases hX
 case isTrue hc =>
  obtain ⟨hlen,hok⟩:=hc
  have hev : ∃ e2,ev G T k noX (.seq ia ib) (setPs ps.toList args e) h = some (.norm,e2,h')∧r = .bool true:=by
   cases hb : ev G T k noX (.seq ia ib) (setPs ps.toList args e) h with
   | none => rw [hb] at hX; cases hX
   | some z =>
    obtain ⟨y,e2,h2⟩:=z
    rw [hb] at hX
    cases y <;> simp only [Option.bind_some,Option.some.injEq,Prod.mk.injEq,reduceCtorEq] at hX
    obtain ⟨rfl,rfl⟩:=hX
    exact ⟨e2,rfl,rfl⟩
  obtain ⟨e2,hev,rfl⟩:=hev
  have hpart : ∃ e1 h1,ev G T k noX ia (setPs ps.toList args e) h = some (.norm,e1,h1)∧ev G T k noX ib e1 h1 = some (.norm,e2,h'):=by
   cases k with
   | zero => cases hev
   | succ k =>
    rw [ZrQ] at hev
    cases hb : ev G T k noX ia (setPs ps.toList args e) h with
    | none => rw [hb] at hev; cases hev
    | some z =>
     obtain ⟨y,e1,h1⟩:=z
     rw [hb,Option.bind_some] at hev
     cases y
     ·exact ⟨e1,h1,ZlC G T k noX ia _ h _ hb,ZlC G T k noX ib _ h1 _ hev⟩
     ·simp [thenB] at hev
     ·simp [thenB] at hev
  obtain ⟨e1,h1,hev1,hev2⟩:=hpart
  obtain ⟨g1,g2,g3,g4⟩:=hG'.2 b (by rw [hL'])
  have hul : us.toArray.size = b.r.params.size:=by
   have:=Zat hu
   rw [hbr]; simp at hlen ⊢; omega
  refine ⟨b.r.fn,_,b.r.assign,b.r.body,run_yield g2 hul,fun n => ?_⟩
  -- the scene of the assignments
  have hf' : S'.L.f = L.f:=by rw [hL']
  have le0 : S.Le { S' with L:=L }:=⟨hSL.symm,fun r hr => (g3 r (hbro r hr)).1,fun r hr => ((g3 r (hbro r hr)).2).trans (hbh r hr),fun c i hi => g4 c i (by rw [hbι]; exact hi)⟩
  have lw0 : S'.ny.Lw ({ S' with L:=L } : Sc).ny:=⟨by show L.f = S'.L.f; rw [hf'],fun p x => by simp [Sc.ny,LK.cut] at x,fun r hr => .inl ⟨hr,rfl⟩,fun _ _ x => x⟩
  have H0 : HR A n0 { S' with L:=L } h.mem h.fz:=H.swap rfl (fun r hr => .inl hr) (Nat.le_refl _) (fun _ _ _ _ _ => rfl) lw0
  have hu0 : RelL { S' with L:=L } args us:=(RelL.gmono lw0 _ _ (RelL.downV hok hu)).up
  have hE0:=ZDk ps.toList args us e a hps hlen hu0 (hE.mono le0)
  have htm : (b.r.params.zip us.toArray).foldl (fun tmps (x : Tmp × Value) => tmps.setIfInBounds x.1 x.2) b.r.tmps = (ps.toList.zip us).foldl (fun tm x => tm.setIfInBounds x.1 x.2) a.tmps:=by
   rw [hbr,← Array.foldl_toList,Array.toList_zip]
  have hLi:=hLC.inr
  have hass : b.r.assign = p:=by rw [hbr]
  have hbody : b.r.body = q:=by rw [hbr]
  have hst : b.r.state = .ready:=by rw [hbr]
  refine roundIn_of_wpIn trivial ?_
  rw [hass,hbody]
  refine ihN { C with inr:=true } hCP hLi (some b.l) n (fun x => by cases x) p ia hp _ h .norm e1 h1 hev1 A n0 { S' with L:=L } _ rfl (by simpa only [htm] using hE0) H0 (hG.mono le0) _ fun a1 S4 Ds1 ok1 hE1 _ _ => ?_
  have hl4 : S4.w.heap[b.l]? = some (.loop b.r):=(ok1.le.cells b.l g1).trans g2
  have hr4 : S4.ro b.l:=ok1.le.ro b.l g1
  refine ⟨_,run_beginRound hl4 hst,?_⟩
  -- the scene of the body
  have lw5 : S4.Lw { S4 with w:=S4.w.putObj b.l (.loop { b.r with state:=.busy }) }:=by
   refine ⟨rfl,fun p x => x,fun r hr => ?_,fun b i x => x⟩
   by_cases hrl : r = b.l
   ·subst hrl; exact .inr (ZnN hl4 (by simp))
   ·exact .inl ⟨hr,World.putObj_heap_other hrl⟩
  have le5 : S.Le { S4 with w:=S4.w.putObj b.l (.loop { b.r with state:=.busy }) }:=by
   have l1:=le0.trans ok1.le
   refine ⟨l1.L,l1.ro,fun r hr => ?_,l1.ι⟩
   have hrl : r≠b.l:=fun q => hl (q ▸ hr)
   exact (World.putObj_heap_other hrl).trans (l1.cells r hr)
  have H5 : HR A n0 { S4 with w:=S4.w.putObj b.l (.loop { b.r with state:=.busy }) } h1.mem h1.fz :=
   ok1.hr.swap rfl (fun r hr => .inl hr) (by simp) (fun r c e p hc => World.putObj_heap_other fun q => by subst q; rw [hl4] at hc; cases hc) lw5.ny
  have hl5 : (S4.w.putObj b.l (.loop { b.r with state:=.busy })).heap[b.l]? = some (.loop { b.r with state:=.busy }):=World.putObj_heap_same (Zha hl4)
  refine ihN { C with inr:=true } hCP hLi (some b.l) n (fun x => by cases x) q ib hq e1 h1 .norm e2 h' hev2 A n0 { S4 with w:=S4.w.putObj b.l (.loop { b.r with state:=.busy }) } a1 ok1.le.L ⟨hE1.size,fun t => Rel.gmono lw5 _ _ (hE1.get t)⟩ H5 (hG.mono le5) _ fun a2 S6 Ds2 ok2 hE2 _ _ => ?_
  have hl6 : S6.w.heap[b.l]? = some (.loop { b.r with state:=.busy }):=(ok2.le.cells b.l hr4).trans hl5
  refine ⟨_,_,run_endRound none hl6,?_⟩
  have hrc : ({ ({ b.r with state:=.busy } : Loop) with state:=if (none : Option Code).isNone then .ready else .done,pending:=none } : Loop) = b.r:=by rw [hbr]; rfl
  rw [hrc]
  have lw7 : S6.ny.Lw ({ S6 with L:=S'.L,w:=S6.w.putObj b.l (.loop b.r) } : Sc).ny:=by
   refine ⟨?_,fun p x => by simp [Sc.ny,LK.cut] at x,fun r hr => ?_,fun b i x => x⟩
   ·show S'.L.f = S6.L.f
    rw [hf',ok2.le.L]; show L.f = S4.L.f; rw [ok1.le.L]
   by_cases hrl : r = b.l
   ·subst hrl; exact .inr (ZnN hl6 (by simp))
   ·exact .inl ⟨hr,World.putObj_heap_other hrl⟩
  refine ⟨_,rfl,{ S6 with L:=S'.L,w:=S6.w.putObj b.l (.loop b.r) },rfl,⟨⟨rfl,fun r hr => ok2.le.ro r (ok1.le.ro r hr),fun r hr => ?_,fun c i hi => ok2.le.ι c i (ok1.le.ι c i hi)⟩,?_,?_⟩,by simp [Rel]⟩
  ·by_cases hrl : r = b.l
   ·subst hrl
    exact (World.putObj_heap_same (Zha hl6)).trans g2.symm
   ·exact (World.putObj_heap_other hrl).trans ((ok2.le.cells r (ok1.le.ro r hr)).trans ((World.putObj_heap_other hrl).trans (ok1.le.cells r hr)))
  ·exact ok2.hr.swap rfl (fun r hr => .inl hr) (by simp) (fun r c e p hc => World.putObj_heap_other fun q => by subst q; rw [hl6] at hc; cases hc) lw7
  ·have b1:=ok1.below
   have b2:=ok2.below
   refine ⟨b2.os.trans b1.os,b2.tape.trans b1.tape,b2.output.trans b1.output,?_,fun r hr => ?_⟩
   ·have:=b1.size; have:=b2.size
    simp at *; omega
   ·by_cases hrl : r = b.l
    ·subst hrl
     exact (World.putObj_heap_same (Zha hl6)).trans g2.symm
    ·exact (World.putObj_heap_other hrl).trans ((b2.block r hr).trans ((World.putObj_heap_other hrl).trans (b1.block r hr)))
def FnB (P : Program) (L : LK) (T : Tbl) (f : Nat) (g : FuncId) : Prop:=∃ (C : CC) (fn : Func) (c : Code) (fi : IFn),C.P = P∧Link C L∧P.funcs[g]? = some fn∧C.N≤fn.ntmps∧fn.body = some c∧T f = some fi∧compC C c = some (erase fi.body)∧mapO (compRes P) fn.results.toList = some fi.res
def FnP (P : Program) (T : Tbl) (f : Nat) (g : FuncId) : Prop:=False
structure ProgOK (P : Program) (L : LK) (T : Tbl) : Prop where
 fn : ∀ f g,L f = some g→FnB P L T f g∨FnP P T f g
 z : T 0 = none
theorem ZwI : ∀ (vs : List AV) (n t : Nat),getE (numE n vs) t = if n≤t then vs.getD (t - n) .undef else .undef
 | [],n,t => by simp [numE,getE]
 | v :: vs,n,t => by
  simp only [numE,getE]
  by_cases h : t = n
  ·subst h; simp
  ·rw [if_neg h,ZwI vs (n + 1) t]
   by_cases h2 : n + 1≤t
   ·rw [if_pos h2,if_pos (by omega),show t - n = (t - (n + 1)) + 1 by omega]; simp
   ·rw [if_neg h2,if_neg (by omega)]
theorem ZtQ {S : Sc} {vs : List AV} {us : List Value} (h : RelL S vs us) {N : Nat} : EnvR S N (numE 0 vs) { tmps:=us.toArray ++ Array.replicate (N - us.toArray.size) undef,defers:=[] }:=by
 refine ⟨by simp; omega,fun t => ?_⟩
 rw [ZwI]
 simp only [Nat.zero_le,if_true,Nat.sub_zero]
 by_cases ht : t < vs.length
 ·have hv : vs[t]? = some vs[t]:=List.getElem?_eq_getElem ht
  obtain ⟨u,hu,hr⟩:=ZhG h t _ hv
  rw [List.getD_eq_getElem?_getD,hv,Array.getD_eq_getD_getElem?,Array.getElem?_append_left (by simpa using (List.getElem?_eq_some_iff.1 hu).1)]
  simp only [List.getElem?_toArray,hu,Option.getD_some]
  exact hr
 ·rw [List.getD_eq_getElem?_getD,List.getElem?_eq_none (by omega)]
  simp [Rel]
theorem ZCa {P : Program} {S : Sc} {hp : Mem} {fz : Nat→Prop} {A : Nat→Prop} {n0 : Nat} (H : HR A n0 S hp fz) {G : Nat→Option (List AV)} (hG : Gok G S) {N : Nat} {e : Env} {a : Act} (hE : EnvR S N e a) {h : Heap} (hh : hp = h.mem) {rv : ResultVar} {ir : IRes} (hc : compRes P rv = some ir) {v : AV} (hv : resOf G e h ir = some v) :
  ∃ u,(match rv with | .tmp t => pure (a.tmps.getD t undef) | .cell ad t => do loadVar t (← asAddr (a.tmps.getD ad undef)) : Sem Value).run P S.w = .ok u S.w∧Rel S v u:=by
 subst hh
 cases rv with
 | tmp t =>
  simp only [compRes,Option.some.injEq] at hc; subst hc
  simp only [resOf,Option.some.injEq] at hv; subst hv
  exact ⟨_,rfl,hE.get t⟩
 | cell t ty =>
  simp only [compRes] at hc
  split at hc
  ·next g i hg hi =>
   split at hc
   ·next h1 =>
    cases hc
    simp only [resOf] at hv
    split at hv
    ·next b off hb =>
     split at hv
     ·next cs hcs =>
      have hr:=hE.get t
      rw [hb] at hr
      obtain ⟨r,o,hu,hat,hl⟩:=ZwQ H (fun _ _ q => q) hG hcs hr
      obtain ⟨u,hrun,hv'⟩:=Zpt hg hi h1 hat hl hv
      refine ⟨u,?_,hv'⟩
      simp [hu,asAddr,hrun]
     ·cases hv
    ·cases hv
   ·cases hc
  ·cases hc
theorem ZxS {P : Program} {S : Sc} {A : Nat→Prop} {n0 : Nat} {h : Heap} (H : HR A n0 S h.mem h.fz) {G : Nat→Option (List AV)} (hG : Gok G S) {N : Nat} {e : Env} {a : Act} (hE : EnvR S N e a) {fn : Func} {rs : List IRes} (hc : mapO (compRes P) fn.results.toList = some rs) {vs : List AV} (hv : resL G e h rs = some vs) :
  ∃ u,(results fn a.tmps).run P S.w = .ok u S.w∧Rel S (pack vs) u:=by
 have key : ∀ (rvs : List ResultVar) (rs : List IRes) (vs : List AV),mapO (compRes P) rvs = some rs→resL G e h rs = some vs →
   ∃ us,(rvs.mapM fun | .tmp t => pure (a.tmps.getD t undef) | .cell ad t => do loadVar t (← asAddr (a.tmps.getD ad undef)) : Sem (List Value)).run P S.w = .ok us S.w∧RelL S vs us:=by
  intro rvs
  induction rvs with
  | nil => intro rs vs h1 h2; simp [mapO] at h1; subst h1; simp [resL] at h2; subst h2; exact ⟨[],by simp,by simp [RelL]⟩
  | cons rv rvs ih =>
   intro rs vs h1 h2
   simp only [mapO] at h1
   split at h1
   ·next ir irs h3 h4 =>
    cases h1
    simp only [resL] at h2
    split at h2
    ·next v vs' h5 h6 =>
     cases h2
     obtain ⟨us,hu,hr⟩:=ih irs vs' h4 h6
     obtain ⟨u,hu1,hr1⟩:=ZCa (P:=P) H hG hE rfl h3 h5
     refine ⟨u :: us,?_,by simp only [RelL]; exact ⟨u,us,rfl,hr1,hr⟩⟩
     simp only [List.mapM_cons,Sem.run_bind,hu1,Result.andThen_ok,hu,Sem.run_pure]
    ·cases h2
   ·cases h1
 obtain ⟨us,hu,hr⟩:=key fn.results.toList rs vs hc hv
 have hl:=Zat hr
 unfold results
 rw [Array.mapM_eq_mapM_toList]
 rw [Sem.run_bind,Sem.run_map]
 erw [hu]
 refine ⟨_,rfl,?_⟩
 show Rel S (pack vs) (if h : us.toArray.size = 1 then us.toArray[0] else .tuple us.toArray)
 by_cases h1 : us.toArray.size = 1
 ·rw [dif_pos h1]
  obtain ⟨u,rfl⟩ : ∃ u,us = [u]:=List.length_eq_one_iff.1 (by simpa using h1)
  obtain ⟨v,rfl⟩ : ∃ v,vs = [v]:=List.length_eq_one_iff.1 (by simpa using hl.symm)
  simp only [RelL] at hr
  obtain ⟨u',r,he,h2,_⟩:=hr
  cases he
  exact h2
 ·rw [dif_neg h1]
  have hp : pack vs = .tup vs:=by
   unfold pack
   split
   ·next v => exfalso; simp at hl h1; omega
   ·rfl
  rw [hp]
  simp only [Rel]
  exact ⟨us.toArray,rfl,by simpa using hr⟩
theorem FnB.of {L' : LK} {f : Nat} {g : FuncId} (h : FnB P L T f g) (hf : L'.f = L.f) : FnB P L' T f g:=by
 obtain ⟨C,fn,c,fi,h1,h2,h3⟩:=h
 exact ⟨C,fn,c,fi,h1,h2.of hf,h3⟩
theorem ProgOK.of {L' : LK} (h : ProgOK P L T) (hf : L'.f = L.f) : ProgOK P L' T:=⟨fun f g x => by
 rw [hf] at x
 exact (h.fn f g x).imp (fun q => q.of hf) id,h.z⟩
theorem ZCg (hP : ProgOK P L T) {k : Nat} (ihN : CodeOK P L G (ev G T k noX)) (ihX : ∀ (L' : LK) (X : XF),L'.f = L.f→XOK P L' G X→CodeOK P L' G (ev G T k X)) : RangeOK P L G T k:=by
 intro C hCP hLC nn g ps p q ig ia ib hin hg hp hq X e h x e' h' hev A n0 S a hSL hE H hG Q hQ
 rw [ZnT] at hev
 have hr:=Zar (hSL ▸ hLC) hE hg
 cases hv : opd e ig <;> rw [hv] at hev hr <;> simp only [reduceCtorEq] at hev
 case fn f cap =>
 simp only [Rel] at hr
 obtain ⟨gf,us,hLf,hgu,hcap⟩:=hr
 rw [hSL] at hLf
 rcases hP.fn f gf hLf with hFn | hFn
 case inr =>
  exact hFn.elim
 obtain ⟨C1,fn,c1,fi,hC1,hL1,hfn,hN,hbody,hT,hcomp,hres⟩:=hFn
 rw [hT,Option.bind_some] at hev
 split at hev
 case isFalse => cases hev
 case isTrue hemp =>
 have hname:=(hL1.fn f gf hLf).elim fun fn' hf' => (show fn.name ≠ "runtime.NumGoroutine" by rw [hC1,hfn] at hf'; cases hf'.1; exact hf'.2)
 have hfr : fi.res = []:=by simpa using hemp
 have hrs : fn.results = #[]:=by
  rw [hfr] at hres
  have:=Zey hres
  simpa using this.symm
 -- the record
 let D:=S.w.heap.size
 let l:=S.w.heap.size + 1
 refine wpIn_rangeFunc fun fnId _ => ?_
 let rc : Loop:={ state:=.ready,pending:=none,fn:=fnId,tmps:=a.tmps,params:=ps,assign:=p,body:=q,defers:=D }
 let w1:=(S.w.alloc (.deferred (some []))).alloc (.loop rc)
 let b : YB:=⟨l,rc,S.ro,fun r => S.w.heap[r]?,S.ι⟩
 let S2 : Sc:={ L:=⟨L.f,some b⟩,w:=w1,ro:=fun r => S.ro r∨r = D∨r = l,ι:=S.ι }
 have hsz : w1.heap.size = S.w.heap.size + 2:=by simp [w1]
 have hold : ∀ r,r < S.w.heap.size→w1.heap[r]? = S.w.heap[r]?:=fun r hr => by
  show ((S.w.heap.push _).push _)[r]? = _
  rw [Array.getElem?_push,if_neg (by simp; omega),Array.getElem?_push,if_neg (by omega)]
 have hwD : w1.heap[D]? = some (.deferred (some [])):=by
  show ((S.w.heap.push _).push _)[S.w.heap.size]? = _
  rw [Array.getElem?_push,if_neg (by simp),Array.getElem?_push,if_pos rfl]
 have hwl : w1.heap[l]? = some (.loop rc):=by
  show ((S.w.heap.push _).push _)[S.w.heap.size + 1]? = _
  rw [Array.getElem?_push,if_pos (by simp)]
 have hlow : ∀ r,S.ro r→r < S.w.heap.size:=fun r hr => (H.ro r hr).1
 have lw2 : S.ny.Lw S2.ny:=⟨by show L.f = S.L.f; rw [hSL],fun p x => by simp [Sc.ny,LK.cut] at x,fun r hr => .inl ⟨.inl hr,hold r (hlow r hr)⟩,fun _ _ x => x⟩
 have H2 : HR A n0 S2 h.mem h.fz:=by
  refine H.swap rfl (fun r hr => ?_) (by rw [show S2.w = w1 from rfl,hsz]; omega) (fun r c e p hc => hold r (Zha hc)) lw2
  rcases hr with hr | rfl | rfl
  ·exact .inl hr
  ·exact .inr ⟨H.old,by show D < w1.heap.size; rw [hsz]; show S.w.heap.size < _; omega,fun c e p hc => by have:=Zha hc; simp [D] at this⟩
  ·exact .inr ⟨by have:=H.old; show n0≤S.w.heap.size + 1; omega,by show l < w1.heap.size; rw [hsz]; show S.w.heap.size + 1 < _; omega,fun c e p hc => by have:=Zha hc; simp [l] at this; omega⟩
 have hG2 : Gok G S2:=by
  refine ⟨fun g' cs hg' => ?_,fun b' hb' => ?_⟩
  ·obtain ⟨x,y⟩:=hG.1 g' cs hg'
   have lwc : S.cl.ny.Lw S2.cl.ny:=⟨lw2.f,fun p x => by simp [Sc.ny,LK.cut] at x,lw2.ro,fun b i x => by simp [Sc.ny,Sc.cl] at x⟩
   exact ⟨.inl x,ZmJ.1 (RelAt.gmono lwc g' ⟨.inl x,hold g' (hlow g' x)⟩ cs 0 (ZmJ.2 y))⟩
  ·have : b = b':=by simpa [S2] using hb'
   subst this
   exact ⟨.inr (.inr rfl),hwl,fun r hr => ⟨.inl hr,hold r (hlow r hr)⟩,fun c i hi => hi⟩
 have hcap2 : RelL S2 cap us.toList:=(RelL.gmono lw2 _ _ hcap).up
 have hargs : RelL S2 (.yv :: cap) (.func (.yield l) #[] #[] :: us.toList):=by
  simp only [RelL]
  exact ⟨_,_,rfl,by simp only [Rel]; exact ⟨b,rfl,rfl⟩,hcap2⟩
 have hX : XOK P ⟨L.f,some b⟩ G (roundB (ev G T k noX) ps.toList (.seq ia ib) e) :=
  ZCm ihN hCP hLC hin.2 hp hq hSL hE hG (b:=b) (fnId:=fnId) (D:=D) rfl (fun r hr => hr) (fun r hr => rfl) rfl (fun hr => by have:=hlow _ hr; simp [b,l] at this; omega)
 cases hb : ev G T k (roundB (ev G T k noX) ps.toList (.seq ia ib) e) fi.body (numE 0 (.yv :: cap)) h with
 | none => rw [hb] at hev; cases hev
 | some z =>
 obtain ⟨y,e2,h2⟩:=z
 rw [hb,Option.bind_some] at hev
 have hy : (y = .norm∨y = .ret)∧x = .norm∧e' = e∧h' = h2:=by
  cases y <;> simp only [endF,Option.some.injEq,Prod.mk.injEq,reduceCtorEq] at hev
  ·exact ⟨.inl rfl,hev.1.symm,hev.2.1.symm,hev.2.2.symm⟩
  ·exact ⟨.inr rfl,hev.1.symm,hev.2.1.symm,hev.2.2.symm⟩
 obtain ⟨hy,rfl,rfl,rfl⟩:=hy
 refine ⟨l,[markD D],w1,{ target:=.fn (.func gf) us,args:=#[Value.func (.yield l) #[] #[]] },w1,gf,#[Value.func (.yield l) #[] #[]] ++ us,w1,run_enterLoop_outer _ _ _ _ _,?_,fun _ _ => trivial,?_,fun hd => (by cases hd),?_⟩
 ·simp only [resolve,rangeCall,hgu,Deferred.ofValue]
  simp [Act.eval]
 ·have hbn : fn.body≠none:=by rw [hbody]; simp
  simp [invoke,callFunc,hfn,hname,hbn]
 have hE2:=ZtQ hargs (N:=fn.ntmps)
 have harr : (Value.func (.yield l) #[] #[] :: us.toList).toArray = #[Value.func (.yield l) #[] #[]] ++ us:=by simp
 rw [harr] at hE2
 have hE2' : EnvR S2 C1.N (numE 0 (.yv :: cap)) { tmps:=(#[Value.func (.yield l) #[] #[]] ++ us) ++ Array.replicate (fn.ntmps - (#[Value.func (.yield l) #[] #[]] ++ us).size) undef,defers:=[] }:=⟨Nat.le_trans hN hE2.size,hE2.get⟩
 refine callsIn_of_wp_marks hfn hbody trivial ?_
 refine ihX ⟨L.f,some b⟩ _ rfl hX C1 hC1 (hL1.of rfl) none (nn - 1) (fun _ => rfl) c1 fi.body hcomp _ h y e2 h' hb A n0 S2 _ rfl hE2' H2 hG2 _ fun a1 S3 Ds ok3 hE3 hd3 hm3 => ?_
 have hpost : LeavesInM (Wf none) (nn - 1) P fn a1.tmps (rangePost (Wf none) nn P l Q { a with defers:=[markD D] ++ a.defers }) a1.defers .returning S3.w:=by
  rw [hd3,List.append_nil]
  refine ZlG (S0:=S2) H2.old (fun r hr => (H2.ro r hr).1) Ds S3 ok3 hm3 fun S4 ok4 hlw4 hro4 => ?_
  have hl4 : S4.w.heap[l]? = some (.loop rc):=(ok4.le.cells l (.inr (.inr rfl))).trans hwl
  refine ⟨.tuple #[],by simp [results,hrs],_,_,run_endLoop hl4 (by simp [rc]),?_⟩
  show Q .normal { a with defers:=[markD D] ++ a.defers } (S4.w.putObj l (.loop { rc with state:=.exhausted }))
  have hoth : ∀ r,r≠l→(S4.w.putObj l (.loop { rc with state:=.exhausted })).heap[r]? = S4.w.heap[r]?:=fun r hr => World.putObj_heap_other hr
  have le5 : S.Le { S4 with L:=L,w:=S4.w.putObj l (.loop { rc with state:=.exhausted }) } :=
   ⟨hSL.symm,fun r hr => ok4.le.ro r (.inl hr),fun r hr => by
    have hlt:=hlow r hr
    have hne : r≠l:=by show r≠S.w.heap.size + 1; omega
    exact (hoth r hne).trans ((ok4.le.cells r (.inl hr)).trans (hold r hlt)),ok4.le.ι⟩
  have lw5 : S4.ny.Lw ({ S4 with L:=L,w:=S4.w.putObj l (.loop { rc with state:=.exhausted }) } : Sc).ny:=by
   refine ⟨by show L.f = S4.L.f; rw [ok4.le.L],fun p x => by simp [Sc.ny,LK.cut] at x,fun r hr => ?_,fun b i x => x⟩
   by_cases hrl : r = l
   ·subst hrl; exact .inr (ZnN hl4 (by simp))
   ·exact .inl ⟨hr,hoth r hrl⟩
  have hb2 : Go.RowKit.Below n0 S.w w1:=((Go.RowKit.Below.refl n0 S.w).alloc H.old _).alloc (by have:=H.old; simp; omega) _
  have ok5 : Ok A n0 S { S4 with L:=L,w:=S4.w.putObj l (.loop { rc with state:=.exhausted }) } h'.mem h'.fz :=
   ⟨le5,ok4.hr.swap rfl (fun r hr => .inl hr) (by simp) (fun r c e p hc => hoth r fun q => by subst q; rw [hl4] at hc; cases hc) lw5,
    ZtC (hb2.trans ok4.below) (by have:=H.old; show n0≤S.w.heap.size + 1; omega) _⟩
  refine hQ _ { S4 with L:=L,w:=S4.w.putObj l (.loop { rc with state:=.exhausted }) } [D] ok5 ⟨hE.size,fun t => (hE.get t).mono le5⟩ rfl ⟨by simp,fun d hd => ?_⟩
  have hdD : d = D:=by simpa using hd
  subst hdD
  refine ⟨Nat.le_refl _,ok4.le.ro D (.inr (.inl rfl)),?_⟩
  exact (hoth D (by show S.w.heap.size≠S.w.heap.size + 1; omega)).trans ((ok4.le.cells D (.inr (.inl rfl))).trans hwD)
 rcases hy with rfl | rfl
 ·exact hpost
 ·exact hpost
theorem Zzt (hP : ProgOK P L T) {k : Nat} {X : XF} (ih : CodeOK P L G (ev G T k noX)) : ∀ (inl : Bool) (f : Nat) (g : FuncId) (args : List AV) (h : Heap) (r : AV) (h' : Heap),L f = some g→callB G T X (ev G T k noX) inl f args h = some (r,h')→∀ (A : Nat→Prop) (n0 : Nat) (S : Sc) (us : List Value),S.L = L→HR A n0 S h.mem h.fz →
  Gok G S→RelL S args us→∃ (vs : List AV) (h1 : Heap),(if inl then r = pack vs∧h' = h1 else snap h1.mem (pack vs) = some r)∧Goes P g us.toArray S.w fun u w' => Res A n0 S (pack vs) h1.mem h1.fz u w':=by
 intro inl f g args h r h' hLf hcall A n0 S us hSL H hG hu
 rcases hP.fn f g hLf with hFn | hFn
 case inr =>
  exact hFn.elim
 obtain ⟨C,fn,c,fi,hCP,hLC,hfn,hN,hbody,hT,hcomp,hres⟩:=hFn
 rw [Zxz G X _ inl hT] at hcall
 cases hb : ev G T k noX fi.body (numE 0 args) h with
 | none => rw [hb] at hcall; cases hcall
 | some q =>
  obtain ⟨x,e1,h1⟩:=q
  rw [hb,Option.bind_some] at hcall
  have hx : ∃ vs,resL G e1 h1 fi.res = some vs∧(if inl then some (pack vs,h1) else (snap h1.mem (pack vs)).map fun r => (r,Heap.nil)) = some (r,h')∧(x = .norm∨x = .ret):=by
   cases x <;> simp only [callEnd,reduceCtorEq] at hcall
   ·cases hr : resL G e1 h1 fi.res with
    | none => rw [hr] at hcall; cases hcall
    | some vs => rw [hr,Option.bind_some] at hcall; exact ⟨vs,rfl,hcall,.inl rfl⟩
   ·cases hr : resL G e1 h1 fi.res with
    | none => rw [hr] at hcall; cases hcall
    | some vs => rw [hr,Option.bind_some] at hcall; exact ⟨vs,rfl,hcall,.inr rfl⟩
  obtain ⟨vs,hvs,hend,hx⟩:=hx
  refine ⟨vs,h1,?_,?_⟩
  ·cases inl
   ·simp only [Bool.false_eq_true,if_false,Option.map_eq_some_iff] at hend ⊢
    obtain ⟨q,hq,he⟩:=hend
    cases he; exact hq
   ·simp only [if_true,Option.some.injEq,Prod.mk.injEq] at hend ⊢
    exact ⟨hend.1.symm,hend.2.symm⟩
  ·have hE:=ZtQ hu (N:=fn.ntmps)
   have hE' : EnvR S C.N (numE 0 args) { tmps:=us.toArray ++ Array.replicate (fn.ntmps - us.toArray.size) undef,defers:=[] }:=⟨Nat.le_trans hN hE.size,hE.get⟩
   refine .inl ⟨fn,hfn,(hLC.fn f g hLf).elim fun fn' hf' => by rw [hCP,hfn] at hf'; cases hf'.1; exact hf'.2,by rw [hbody]; rfl,?_⟩
   refine callsIn_wide.1 (callsIn_of_wp_marks (F:=Wf none) (n:=0) hfn hbody trivial (ih C hCP hLC none 0 (fun _ => rfl) c fi.body hcomp _ h x e1 h1 hb A n0 S _ hSL hE' H hG _ ?_))
   intro a1 S1 Ds ok1 hE1 hd1 hm1
   have hpost : LeavesInM (Wf none) 0 P fn a1.tmps (fun e w' => ∃ u,e = .returned u∧Res A n0 S (pack vs) h1.mem h1.fz u w') a1.defers .returning S1.w:=by
    rw [hd1,List.append_nil]
    refine ZlG H.old (fun r hr => (H.ro r hr).1) Ds S1 ok1 hm1 fun S2 ok2 hlw2 _ => ?_
    obtain ⟨u,hu1,hu2⟩:=ZxS (P:=P) (a:=a1) ok2.hr (hG.mono ok2.le) ⟨hE1.size,fun t => Rel.gmono hlw2 _ _ (hE1.get t)⟩ hres hvs
    exact ⟨u,hu1,u,rfl,S2,rfl,ok2,hu2⟩
   rcases hx with rfl | rfl
   ·exact hpost
   ·exact hpost
theorem ZrN (hP : ProgOK P L T) {k : Nat} {X : XF} (hX : XOK P L G X) (ih : CodeOK P L G (ev G T k noX)) (ihc : CodeOK P L.cut G (ev G T k noX)) : CallsOK P L G (callB G T X (ev G T k noX)):=by
 refine ⟨?_,?_,?_⟩
 ·intro f g args r h' hLf hcall w A us hA hG hu
  have H0 : HR A w.heap.size ⟨L.cut,w,A,noι⟩ Heap.nil.mem Heap.nil.fz :=
   ⟨fun b k i hb => by simp [Heap.nil,Heap.mem] at hb,fun b i hi => by simp [noι] at hi,fun b b' k k' i i' hb => by simp [Heap.nil,Heap.mem] at hb,
    fun r hr => ⟨hA r hr,fun _ => hr,fun b k i hb => by simp [Heap.nil,Heap.mem] at hb⟩,Nat.le_refl _⟩
  obtain ⟨vs,h1,hsn,hc⟩:=Zzt (hP.of (L':=L.cut) rfl) ihc false f g args .nil r h' hLf hcall A w.heap.size ⟨L.cut,w,A,noι⟩ us rfl H0 hG hu
  simp only [Bool.false_eq_true,if_false] at hsn
  refine hc.mono ?_
  rintro u w' ⟨S',rfl,ok,hr⟩
  have hsh : Shut S' ⟨L.cut,S'.w,fun r => A r∨w.heap.size≤r∧r < S'.w.heap.size,noι⟩:=⟨by rw [ok.le.L],rfl,rfl,fun r hr => by
   obtain ⟨x,y,_⟩:=ok.hr.ro r hr
   rcases Nat.lt_or_ge r w.heap.size with q | q
   ·exact .inl (y q)
   ·exact .inr ⟨q,x⟩⟩
  refine ⟨ok.below,?_⟩
  refine Zrm hsh (Zrn ok.hr (fun _ _ q => q) hsh 3) (pack vs) r u hsn ?_ hr
  intro b _ i hi ⟨k,hk,_⟩
  have B:=ok.hr.blk b k i hk hi
  obtain ⟨_,_,hrow,_⟩:=B.row
  exact .inr ⟨B.low,Zha hrow⟩
 ·intro f g args h r h' hLf hcall A n0 S us hSL H hG hu
  obtain ⟨vs,h1,hsn,hc⟩:=Zzt hP ih true f g args h r h' hLf hcall A n0 S us hSL H hG hu
  simp only [if_true] at hsn
  obtain ⟨rfl,rfl⟩:=hsn
  exact hc
 ·intro args h r h' hc A n0 S us b hSL hy H hG hu
  rw [Znh,hP.z] at hc
  exact hX args h r h' (by simpa using hc) A n0 S us b hSL hy H hG hu
theorem ZDa (hm : P.follows .mixedOrders = true) : ∀ (k : Nat) (L : LK) (X : XF),ProgOK P L T→XOK P L G X→CodeOK P L G (ev G T k X)∧LoopOK P L G (ev G T k X) k
 | 0,L,X,hP,hX => by
  constructor
  ·intro C _ _ rr nn _ c ic _ e h x e' h' hev; cases hev
  ·intro C _ _ rr nn _ c keep ic _ e h x e' h' hev; cases hev
 | k + 1,L,X,hP,hX =>
  have ihA:=ZDa hm k
  have ihN:=(ihA L noX hP Zxs).1
  ZyB hm (ZrN hP hX ihN (ihA L.cut noX (hP.of rfl) Zxs).1) (ihA L X hP hX).1 (ihA L X hP hX).2 (ZCg hP ihN fun L' X' hf hX' => (ihA L' X' (hP.of hf) hX').1)
theorem ZzX (hm : P.follows .mixedOrders = true) (hP : ProgOK P L T) (hy : L.y = none) {f : Nat} {g : FuncId} {args : List AV} {t : Bool} (hLf : L f = some g) (hr : run G T f args = some (.bool t))
  (w : World) (A : Nat→Prop) (hA : ∀ r,A r→r < w.heap.size) (hG : Gok G ⟨L,w,A,noι⟩) {us : List Value} (hu : RelL ⟨L,w,A,noι⟩ args us) :
  Calls P g us.toArray w fun e w' => ∃ u,e = .returned u∧Go.RowKit.Below w.heap.size w w'∧Rel ⟨L,w',fun r => A r∨w.heap.size≤r∧r < w'.heap.size,noι⟩ (.bool t) u:=by
 unfold run at hr
 rw [Option.map_eq_some_iff] at hr
 obtain ⟨⟨r',h'⟩,hc,hb⟩:=hr
 simp only at hb
 subst hb
 obtain ⟨k,hk⟩:=((ZGq G T false f args .nil).sup _).1 hc
 have hcut : L.cut = L:=by obtain ⟨Lf,y⟩:=L; simp only at hy; subst hy; rfl
 have hN:=(ZDa (G:=G) hm k L noX hP Zxs).1
 have hsh:=(ZrN (X:=noX) hP Zxs hN (by rw [hcut]; exact hN)).shut f g args _ h' hLf hk w A us hA
 rw [hcut] at hsh
 rcases hsh hG hu with ⟨_,_,_,_,h4⟩ | ⟨u,w',h1,h2,h3⟩
 ·exact h4
 ·exfalso
  rcases hP.fn f g hLf with hFn | hFn
  ·obtain ⟨C,fn,c,fi,hCP,hLC,hfn,hN,hbody,hT,hcomp,hres⟩:=hFn
   have hname:=(hLC.fn f g hLf).elim fun fn' hf' => (show fn.name ≠ "runtime.NumGoroutine" by rw [hCP,hfn] at hf'; cases hf'.1; exact hf'.2)
   have hbn : fn.body≠none:=by rw [hbody]; simp
   have hbi : fn.body.isNone = false:=by rw [hbody]; rfl
   simp [callFunc,hfn,hname,hbn] at h1
  ·exact hFn
end
end Go.Cv
