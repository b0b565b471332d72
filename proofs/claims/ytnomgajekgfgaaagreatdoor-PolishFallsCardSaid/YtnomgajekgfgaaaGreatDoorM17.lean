/-
 A part of the proof of the statements of this seat (texts that the law's own text leans on): no condition.
-/
import Derived.Test.YtnomgajekgfgaaaGreatDoorM16
import Derived.Test.YtnomgajekgfgaaaGreatDoorM7
set_option linter.unusedVariables false
set_option linter.unusedSimpArgs false
set_option linter.defProp false
namespace Go.Cv
variable {G : Nat→Option (List AV)} {T : Tbl} {g : Nat}
def wkA (F : Fm) (V W : AV) (b : Bool) : AV:=.agg [.int .u8 F.u,V,W,.bool b]
def wkB (F : Fm) (V W : AV) (b : Bool) : Blk:=⟨[.int .u8 F.u,V,W,.bool b],false⟩
theorem Zlr (J : Al G T g) (hO : HasO g T) (F : Fm) {z y t : Bool} {l D : List (Nat × Nat)} {p : Nat × Nat} (hp : Zw F p) :
  run G T 384 [wkA F (ZL z l) (ZL y D) t,zA p.1 p.2] = some (.bool (@decide (Zf F p) (Classical.propDecidable _))):=by
 rw [Zab G T hO.polish_walk_finite]
 have c1:=ZbF J F hp.1 hp.2
 have hd : @decide (Zf F p) (Classical.propDecidable _) = decide (zcl (F.cls p.1) (F.cls p.2)≤2):=decide_eq_decide.2 (Zho F)
 rw [hd]
 generalize zcl (F.cls p.1) (F.cls p.2) = c at *
 simp only [zA,wkA] at *
 repeat' (first | simp only [seval,exC,ZbS,ZB,c1] | simp (disch:=omega) only [dxB])
theorem Ztv (J : Al G T g) (hO : HasO g T) (F : Fm) {z y t : Bool} {l D : List (Nat × Nat)} {p q : Nat × Nat} (hp : Zw F p) (hq : Zw F q) :
  run G T 402 [wkA F (ZL z l) (ZL y D) t,zA p.1 p.2,zA q.1 q.2] = some (.bool (@decide (lsZ F p q) (Classical.propDecidable _))):=by
 rw [Zab G T hO.polish_walk_nearer]
 have c1:=ZmI J F hp.1 hp.2 hq.1 hq.2
 have hd : @decide (lsZ F p q) (Classical.propDecidable _) = decide (cmpZ F p.1 p.2 q.1 q.2 = 1):=decide_eq_decide.2 Iff.rfl
 rw [hd]
 generalize cmpZ F p.1 p.2 q.1 q.2 = c at *
 simp only [zA,wkA] at *
 repeat' (first | simp only [seval,exC,ZbU,ZB,c1] | simp (disch:=omega) only [dxB])
structure Pg (F : Fm) (l : List (Nat × Nat)) : Prop where
 len : ¬ 41 < l.length
 w : Zws F l
 f : Zfs F l
theorem Pg.w64 {F : Fm} {l : List (Nat × Nat)} (h : Zws F l) : W64 l:=fun a ha => ⟨Zbm (h a ha).1,Zbm (h a ha).2⟩
theorem ZGU (J : Al G T g) (hP : HasK g T) (hO : HasO g T) (F : Fm) {z y t : Bool} {l D : List (Nat × Nat)} {p : Nat × Nat} (hl : Pg F l) (hp : Zw F p) (hf : Zf F p) :
  run G T 401 [wkA F (ZL z l) (ZL y D) t,zA p.1 p.2] = some (vlA (evE F p l).1 (evE F p l).2):=by
 rw [Zab G T hO.polish_walk_at]
 have c1:=Zlp J hP F (z:=z) (Pg.w64 hl.w) (Zbm hp.1) (Zbm hp.2) (Zqb hl.len ⟨hl.w,hp⟩ ⟨hl.f,hf⟩) hl.len hl.w hp
 rw [show ((p.1,p.2) : Nat × Nat) = p from rfl] at c1
 generalize evE F p l = v at *
 simp only [zA,wkA,vlA] at *
 repeat' (first | simp only [seval,exC,ZdT,ZB,c1] | simp (disch:=omega) only [dxB])
theorem ZEj (J : Al G T g) (hP : HasK g T) (hO : HasO g T) (F : Fm) {z y t : Bool} {l D : List (Nat × Nat)} {s : Nat × Nat} (hs : Zw F s) {j : Nat} (hj : j≤6) :
  run G T 406 [wkA F (ZL z l) (ZL y D) t,zA s.1 s.2,.int .i64 (j : Int)] = some (zA (haZ F s j).1 (haZ F s j).2):=by
 rw [Zab G T hO.polish_walk_part]
 have c1:=Zjs J hP F (md:=1) (by decide) hs.1 (n := -(j : Int)) (by omega)
 have c2:=Zjs J hP F (md:=1) (by decide) hs.2 (n := -(j : Int)) (by omega)
 have w1 : IntKind.i64.wrap (0 - (j : Int)) = -(j : Int):=by rw [Zac (by omega)]; omega
 unfold haZ
 generalize scaW F 1 s.1 (-(j : Int)) = a at *
 generalize scaW F 1 s.2 (-(j : Int)) = b at *
 simp only [zA,wkA] at *
 repeat' (first | simp only [seval,exC,ZcQ,ZB,c1,c2,w1] | simp (disch:=omega) only [dxB])
theorem ZwI {F : Fm} (p : Nat × Nat) {l : List (Nat × Nat)} (hw : Zws F l) : Zw F (evE F p l).1:=by
 unfold evE
 split
 ·exact ⟨by cases F <;> decide,by cases F <;> decide⟩
 ·exact (pE_w F p l hw).1
theorem ZFP {F : Fm} (p : Nat × Nat) {l : List (Nat × Nat)} (hw : Zws F l) : (evE F p l).2 < 2 * F.sg:=by
 unfold evE
 split
 ·cases F <;> decide
 ·simp only
  unfold bdE
  split
  ·exact (pE_w F p l hw).2
  ·exact Zle F _
theorem ZIA {F : Fm} {s : Nat × Nat} (hs : Zw F s) (j : Nat) : Zw F (haZ F s j):=⟨Zso F (by decide) hs.1 _,Zso F (by decide) hs.2 _⟩
theorem ZDn (F : Fm) (v d : Nat × Nat) : divZ F 1 v.1 v.2 d.1 d.2 = (((quZ F v d).1,(divZ F 1 v.1 v.2 d.1 d.2).1.2),((quZ F v d).2,(divZ F 1 v.1 v.2 d.1 d.2).2.2)):=rfl
theorem ZBf (J : Al G T g) (hP : HasK g T) (hO : HasO g T) (F : Fm) {z y t : Bool} {l D : List (Nat × Nat)} {x v : Nat × Nat} (hD : ¬ 41 < D.length) (wD : Zws F D) (ht : t = true↔Zfs F D) (wx : Zw F x) (fx : Zf F x) (wv : Zw F v) (fv : Zf F v) :
  (shP F D x v = none∧∃ q : Nat × Nat,run G T 405 [wkA F (ZL z l) (ZL y D) t,zA x.1 x.2,zA v.1 v.2] = some (.tup [zA q.1 q.2,.bool false])) ∨
  (∃ s,shP F D x v = some s∧Zw F s∧Zf F s∧run G T 405 [wkA F (ZL z l) (ZL y D) t,zA x.1 x.2,zA v.1 v.2] = some (.tup [zA s.1 s.2,.bool true])):=by
 rw [Zab G T hO.polish_walk_shift]
 by_cases h1 : t = true
 ·have fD:=ht.1 h1
  subst h1
  have e1:=Zlp J hP F (z:=y) (Pg.w64 wD) (Zbm wx.1) (Zbm wx.2) (Zqb hD ⟨wD,wx⟩ ⟨fD,fx⟩) hD wD wx
  rw [show ((x.1,x.2) : Nat × Nat) = x from rfl] at e1
  have wd:=ZwI x wD
  have c1:=ZbF J F wd.1 wd.2
  unfold shP
  by_cases h2 : zcl (F.cls (evE F x D).1.1) (F.cls (evE F x D).1.2) = 2
  ·have wq:=ZJk fv wd h2
   have d1:=ZpG J F (md:=1) (by decide) wv.1 wv.2 wd.1 wd.2
   rw [ZDn F v (evE F x D).1] at d1
   have n1:=fun t => Zlr J hO F (z:=z) (y:=y) (t:=t) (l:=l) (D:=D) wq
   rw [h2] at c1
   generalize (divZ F 1 v.1 v.2 (evE F x D).1.1 (evE F x D).1.2).1.2 = g1 at *
   generalize (divZ F 1 v.1 v.2 (evE F x D).1.1 (evE F x D).1.2).2.2 = g2 at *
   generalize quZ F v (evE F x D).1 = q at *
   by_cases h3 : Zf F q
   ·refine .inr ⟨q,by rw [if_pos ⟨⟨fD,h2⟩,h3⟩],wq,h3,?_⟩
    rw [@decide_eq_true _ (Classical.propDecidable _) h3] at n1
    clear wd h2
    generalize evE F x D = V at *
    simp only [zA,zrA,wkA,vlA] at *
    repeat' (first | simp only [seval,exC,ZaD,ZB,e1,c1,d1,n1] | simp (disch:=omega) only [dxB])
   ·refine .inl ⟨by rw [if_neg (fun r => h3 r.2)],q,?_⟩
    rw [@decide_eq_false _ (Classical.propDecidable _) h3] at n1
    clear wd h2
    generalize evE F x D = V at *
    simp only [zA,zrA,wkA,vlA] at *
    repeat' (first | simp only [seval,exC,ZaD,ZB,e1,c1,d1,n1] | simp (disch:=omega) only [dxB])
  ·refine .inl ⟨by rw [if_neg (fun r => h2 r.1.2)],(0,0),?_⟩
   have h2' : ¬ zcl (F.cls (evE F x D).1.1) (F.cls (evE F x D).1.2) = 2:=h2
   generalize zcl (F.cls (evE F x D).1.1) (F.cls (evE F x D).1.2) = c at *
   clear wd
   generalize evE F x D = V at *
   simp only [zA,zrA,wkA,vlA,cast0] at *
   repeat' (first | simp only [seval,exC,ZaD,ZB,e1,c1,h2'] | simp (disch:=omega) only [dxB])
 ·have fD : ¬ Zfs F D:=fun q => h1 (ht.2 q)
  have h1' : t = false:=by simpa using h1
  subst h1'
  refine .inl ⟨by unfold shP; rw [if_neg (fun r => fD r.1.1)],(0,0),?_⟩
  simp only [zA,wkA,cast0] at *
  repeat' (first | simp only [seval,exC,ZaD,ZB] | simp (disch:=omega) only [dxB])
theorem ZAu (x y z : AV) : fieldA true 0 2 (.agg [x,y,z]) = some (.agg [x,y]):=rfl
theorem ZqA (e : Env) (h : Heap) : evL G T Zai e h = kS G T (evL G T Zax (keepE [3,4,5,6,8,24] e) h) Zai:=Zae G T rfl e h
set_option maxHeartbeats 16000000 in
theorem ZiI (J : Al G T g) (hP : HasK g T) (hO : HasO g T) (F : Fm) {z y t : Bool} {l D : List (Nat × Nat)} {x s v q : Nat × Nat} (hl : Pg F l) (wx : Zw F x) (ws : Zw F s) (wv : Zw F v) : ∀ (m j : Nat) (bs : List Blk),j + m = 7 →
  (∃ r bs',tryP F l x s v m j = some r∧evL G T Zai [(3,.ptr 0 0),(4,.ptr 1 0),(5,.ptr 2 0),(6,.ptr 3 0),(8,.ptr 4 0),(24,.int .i64 (j : Int))] ⟨wkB F (ZL z l) (ZL y D) t :: zB x :: zB v :: zB q :: zB s :: bs,[]⟩ =
   some (.ret,[(6,.ptr 3 0),(7,.int .i64 0)],⟨wkB F (ZL z l) (ZL y D) t :: zB x :: zB v :: zB r :: zB s :: bs',[]⟩)) ∨
  (∃ bs',tryP F l x s v m j = none∧evL G T Zai [(3,.ptr 0 0),(4,.ptr 1 0),(5,.ptr 2 0),(6,.ptr 3 0),(8,.ptr 4 0),(24,.int .i64 (j : Int))] ⟨wkB F (ZL z l) (ZL y D) t :: zB x :: zB v :: zB q :: zB s :: bs,[]⟩ =
   some (.exit 0,[(3,.ptr 0 0),(4,.ptr 1 0),(5,.ptr 2 0),(6,.ptr 3 0),(8,.ptr 4 0),(24,.int .i64 7),(25,.bool false)],⟨wkB F (ZL z l) (ZL y D) t :: zB x :: zB v :: zB q :: zB s :: bs',[]⟩))
 | 0,j,bs,hj => by
  have : j = 7:=by omega
  subst this
  refine .inr ⟨bs,rfl,?_⟩
  rw [ZqA,show ((7 : Nat) : Int) = 7 from rfl]
  repeat' (first | simp only [seval,exC,Zax] | simp (disch:=omega) only [dxB])
 | m + 1,j,bs,hj => by
  have hlt : (j : Int) < 7:=by omega
  have w1 : IntKind.i64.wrap ((j : Int) + 1) = ((j + 1 : Nat) : Int):=by rw [Zac (by omega)]; rfl
  have p1:=ZEj J hP hO F (z:=z) (y:=y) (t:=t) (l:=l) (D:=D) ws (j:=j) (by omega)
  have wh:=ZIA ws j
  have d1:=ZpI J F (md:=1) (by decide) wx.1 wx.2 wh.1 wh.2
  have wy:=yJ_w (F:=F) x s j
  have n1:=Zlr J hO F (z:=z) (y:=y) (t:=t) (l:=l) (D:=D) wy
  have eY : yJ F x s j = ((subW F 1 x.1 (haZ F s j).1).1,(subW F 1 x.2 (haZ F s j).2).1):=rfl
  rw [tryP]
  by_cases h1 : Zf F (yJ F x s j)
  ·have e1:=ZGU J hP hO F (z:=z) (y:=y) (t:=t) (D:=D) hl wy h1
   have wu:=ZwI (yJ F x s j) hl.w
   have n2:=Zlr J hO F (z:=z) (y:=y) (t:=t) (l:=l) (D:=D) wu
   have k1:=Ztv J hO F (z:=z) (y:=y) (t:=t) (l:=l) (D:=D) wu wv
   rw [@decide_eq_true _ (Classical.propDecidable _) h1] at n1
   by_cases h2 : Zf F (evE F (yJ F x s j) l).1
   ·rw [@decide_eq_true _ (Classical.propDecidable _) h2] at n2
    by_cases h3 : lsZ F (evE F (yJ F x s j) l).1 v
    ·rw [@decide_eq_true _ (Classical.propDecidable _) h3] at k1
     have hg : goodY F l v (yJ F x s j):=⟨h1,h2,h3⟩
     rw [if_pos hg]
     clear wu wy hg h1 h2 h3
     generalize evE F (yJ F x s j) l = V at *
     rw [eY] at n1 e1 ⊢
     generalize haZ F s j = hz at *
     generalize subW F 1 x.1 hz.1 = A at *
     generalize subW F 1 x.2 hz.2 = B at *
     refine .inl ⟨(A.1,B.1),bs ++ [⟨[.int .u64 (A.1 : Int),.int .u64 (B.1 : Int),.int .u8 (A.2 : Int),.int .u8 (B.2 : Int)],false⟩,zB V.1],rfl,?_⟩
     rw [ZqA]
     simp only [zA,zB,zrA,wkA,wkB,vlA] at *
     repeat' (first | simp only [seval,exC,Zax,hlt,p1,d1,n1,e1,n2,k1,ZAu,gaB,ZB,w1] | simp (disch:=omega) only [dxB])
    ·rw [@decide_eq_false _ (Classical.propDecidable _) h3] at k1
     rw [if_neg (fun r : goodY F l v (yJ F x s j) => h3 r.2.2)]
     clear wu wy h1 h2 h3
     generalize evE F (yJ F x s j) l = V at *
     rw [eY] at n1 e1
     generalize haZ F s j = hz at *
     generalize subW F 1 x.1 hz.1 = A at *
     generalize subW F 1 x.2 hz.2 = B at *
     have ih:=ZiI J hP hO F (z:=z) (y:=y) (t:=t) (D:=D) (q:=q) hl wx ws wv m (j + 1) (bs ++ [⟨[.int .u64 (A.1 : Int),.int .u64 (B.1 : Int),.int .u8 (A.2 : Int),.int .u8 (B.2 : Int)],false⟩,zB V.1]) (by omega)
     have st : evL G T Zai [(3,.ptr 0 0),(4,.ptr 1 0),(5,.ptr 2 0),(6,.ptr 3 0),(8,.ptr 4 0),(24,.int .i64 (j : Int))] ⟨wkB F (ZL z l) (ZL y D) t :: zB x :: zB v :: zB q :: zB s :: bs,[]⟩ = evL G T Zai [(3,.ptr 0 0),(4,.ptr 1 0),(5,.ptr 2 0),(6,.ptr 3 0),(8,.ptr 4 0),(24,.int .i64 ((j + 1 : Nat) : Int))] ⟨wkB F (ZL z l) (ZL y D) t :: zB x :: zB v :: zB q :: zB s :: (bs ++ [⟨[.int .u64 (A.1 : Int),.int .u64 (B.1 : Int),.int .u8 (A.2 : Int),.int .u8 (B.2 : Int)],false⟩,zB V.1]),[]⟩:=by
      clear ih
      rw [ZqA]
      simp only [zA,zB,zrA,wkA,wkB,vlA] at *
      repeat' (first | simp only [seval,exC,Zax,hlt,p1,d1,n1,e1,n2,k1,ZAu,gaB,ZB,w1] | simp (disch:=omega) only [dxB])
     rw [st]; exact ih
   ·rw [@decide_eq_false _ (Classical.propDecidable _) h2] at n2
    rw [if_neg (fun r : goodY F l v (yJ F x s j) => h2 r.2.1)]
    clear wu wy h1 h2 k1
    generalize evE F (yJ F x s j) l = V at *
    rw [eY] at n1 e1
    generalize haZ F s j = hz at *
    generalize subW F 1 x.1 hz.1 = A at *
    generalize subW F 1 x.2 hz.2 = B at *
    have ih:=ZiI J hP hO F (z:=z) (y:=y) (t:=t) (D:=D) (q:=q) hl wx ws wv m (j + 1) (bs ++ [⟨[.int .u64 (A.1 : Int),.int .u64 (B.1 : Int),.int .u8 (A.2 : Int),.int .u8 (B.2 : Int)],false⟩,zB V.1]) (by omega)
    have st : evL G T Zai [(3,.ptr 0 0),(4,.ptr 1 0),(5,.ptr 2 0),(6,.ptr 3 0),(8,.ptr 4 0),(24,.int .i64 (j : Int))] ⟨wkB F (ZL z l) (ZL y D) t :: zB x :: zB v :: zB q :: zB s :: bs,[]⟩ = evL G T Zai [(3,.ptr 0 0),(4,.ptr 1 0),(5,.ptr 2 0),(6,.ptr 3 0),(8,.ptr 4 0),(24,.int .i64 ((j + 1 : Nat) : Int))] ⟨wkB F (ZL z l) (ZL y D) t :: zB x :: zB v :: zB q :: zB s :: (bs ++ [⟨[.int .u64 (A.1 : Int),.int .u64 (B.1 : Int),.int .u8 (A.2 : Int),.int .u8 (B.2 : Int)],false⟩,zB V.1]),[]⟩:=by
     clear ih
     rw [ZqA]
     simp only [zA,zB,zrA,wkA,wkB,vlA] at *
     repeat' (first | simp only [seval,exC,Zax,hlt,p1,d1,n1,e1,n2,ZAu,gaB,ZB,w1] | simp (disch:=omega) only [dxB])
    rw [st]; exact ih
  ·rw [@decide_eq_false _ (Classical.propDecidable _) h1] at n1
   rw [if_neg (fun r : goodY F l v (yJ F x s j) => h1 r.1)]
   clear wy h1
   rw [eY] at n1
   generalize haZ F s j = hz at *
   generalize subW F 1 x.1 hz.1 = A at *
   generalize subW F 1 x.2 hz.2 = B at *
   have ih:=ZiI J hP hO F (z:=z) (y:=y) (t:=t) (D:=D) (q:=q) hl wx ws wv m (j + 1) (bs ++ [⟨[.int .u64 (A.1 : Int),.int .u64 (B.1 : Int),.int .u8 (A.2 : Int),.int .u8 (B.2 : Int)],false⟩]) (by omega)
   have st : evL G T Zai [(3,.ptr 0 0),(4,.ptr 1 0),(5,.ptr 2 0),(6,.ptr 3 0),(8,.ptr 4 0),(24,.int .i64 (j : Int))] ⟨wkB F (ZL z l) (ZL y D) t :: zB x :: zB v :: zB q :: zB s :: bs,[]⟩ = evL G T Zai [(3,.ptr 0 0),(4,.ptr 1 0),(5,.ptr 2 0),(6,.ptr 3 0),(8,.ptr 4 0),(24,.int .i64 ((j + 1 : Nat) : Int))] ⟨wkB F (ZL z l) (ZL y D) t :: zB x :: zB v :: zB q :: zB s :: (bs ++ [⟨[.int .u64 (A.1 : Int),.int .u64 (B.1 : Int),.int .u8 (A.2 : Int),.int .u8 (B.2 : Int)],false⟩]),[]⟩:=by
    clear ih
    rw [ZqA]
    simp only [zA,zB,zrA,wkA,wkB,vlA] at *
    repeat' (first | simp only [seval,exC,Zax,hlt,p1,d1,n1,gaB,ZB,w1] | simp (disch:=omega) only [dxB])
   rw [st]; exact ih
theorem ZEk (J : Al G T g) (hP : HasK g T) (hO : HasO g T) (F : Fm) {z y t : Bool} {l D : List (Nat × Nat)} {x v : Nat × Nat} (hl : Pg F l) (hD : ¬ 41 < D.length) (wD : Zws F D) (ht : t = true↔Zfs F D) (wx : Zw F x) (fx : Zf F x) (wv : Zw F v) (fv : Zf F v) :
  run G T 403 [wkA F (ZL z l) (ZL y D) t,zA x.1 x.2,zA v.1 v.2] = some (.tup [zA (stP F l D x v).1.1 (stP F l D x v).1.2,.int .i64 ((stP F l D x v).2 : Int)]):=by
 rw [Zab G T hO.polish_walk_step]
 unfold stP
 rcases ZBf J hP hO F (z:=z) (y:=y) (l:=l) hD wD ht wx fx wv fv with ⟨h1,q,s1⟩ | ⟨s,h1,ws,fs,s1⟩
 ·rw [h1]
  simp only [zA,wkA,cast0] at *
  repeat' (first | simp only [seval,exC,ZaZ,ZB,s1] | simp (disch:=omega) only [dxB])
 ·rw [h1]
  simp only
  rcases ZiI J hP hO F (z:=z) (y:=y) (t:=t) (D:=D) (q:=(0,0)) hl wx ws wv 7 0 [] (by omega) with ⟨r,bs',h2,lp⟩ | ⟨bs',h2,lp⟩
  ·rw [h2]
   simp only [zA,zB,wkA,wkB,cast0] at *
   repeat' (first | simp only [seval,exC,ZaZ,ZB,s1,lp] | simp (disch:=omega) only [dxB])
  ·rw [h2]
   simp only [zA,zB,wkA,wkB,cast0] at *
   repeat' (first | simp only [seval,exC,ZaZ,ZB,s1,lp] | simp (disch:=omega) only [dxB])
theorem ZGV (J : Al G T g) (hP : HasK g T) (hO : HasO g T) (F : Fm) {z y t last : Bool} {l D : List (Nat × Nat)} {x : Nat × Nat} (hl : Pg F l) (hD : ¬ 41 < D.length) (wD : Zws F D) (ht : t = true↔Zfs F D) (wx : Zw F x) (fx : Zf F x) :
  run G T 396 [wkA F (ZL z l) (ZL y D) t,zA x.1 x.2,.bool last] = some (.tup [zA (onP F l D x last).1.1 (onP F l D x last).1.2,.int .i64 ((onP F l D x last).2 : Int)]):=by
 rw [Zab G T hO.polish_walk_on]
 have e1:=ZGU J hP hO F (z:=z) (y:=y) (t:=t) (D:=D) hl wx fx
 have wv:=ZwI x hl.w
 have n1:=Zlr J hO F (z:=z) (y:=y) (t:=t) (l:=l) (D:=D) wv
 have z0 : (0 : Nat) < 2 * F.sg:=by cases F <;> decide
 have k1:=Ztv J hO F (z:=z) (y:=y) (t:=t) (l:=l) (D:=D) (p:=((evE F x l).2,0)) (q:=(evE F x l).1) ⟨ZFP x hl.w,z0⟩ wv
 unfold onP
 by_cases h1 : Zf F (evE F x l).1
 ·rw [@decide_eq_true _ (Classical.propDecidable _) h1] at n1
  rw [if_neg (not_not_intro h1)]
  by_cases h2 : lsZ F ((evE F x l).2,0) (evE F x l).1
  ·rw [@decide_eq_true _ (Classical.propDecidable _) h2] at k1
   rw [if_neg (not_not_intro h2)]
   cases last
   ·rw [if_neg (by decide)]
    have s1:=ZEk J hP hO F (z:=z) (y:=y) hl hD wD ht wx fx wv h1
    generalize stP F l D x (evE F x l).1 = R at *
    clear wv h1 h2
    generalize evE F x l = V at *
    simp only [zA,zB,wkA,wkB,vlA,cast0] at *
    repeat' (first | simp only [seval,exC,Zbd,ZB,e1,n1,k1,s1] | simp (disch:=omega) only [dxB])
   ·rw [if_pos rfl]
    clear wv h1 h2
    generalize evE F x l = V at *
    simp only [zA,zB,wkA,wkB,vlA,cast0] at *
    repeat' (first | simp only [seval,exC,Zbd,ZB,e1,n1,k1] | simp (disch:=omega) only [dxB])
  ·rw [@decide_eq_false _ (Classical.propDecidable _) h2] at k1
   rw [if_pos h2]
   clear wv h1 h2
   generalize evE F x l = V at *
   simp only [zA,zB,wkA,wkB,vlA,cast0] at *
   repeat' (first | simp only [seval,exC,Zbd,ZB,e1,n1,k1] | simp (disch:=omega) only [dxB])
 ·rw [@decide_eq_false _ (Classical.propDecidable _) h1] at n1
  rw [if_pos h1]
  clear wv h1 k1
  generalize evE F x l = V at *
  simp only [zA,zB,wkA,wkB,vlA,cast0] at *
  repeat' (first | simp only [seval,exC,Zbd,ZB,e1,n1] | simp (disch:=omega) only [dxB])
end Go.Cv
namespace Go.Cv
variable {G : Nat→Option (List AV)} {T : Tbl} {g : Nat}
section
variable (X : XF)
theorem Zxc (f : Nat) (args : List AV) (h : Heap) : CFX G T X false f args h = CF G T false f args h:=by
 unfold CFX CF
 rw [ZmC,ZmC]
 cases T f <;> simp [noX]
theorem ZEE (h : Mem) (f : Nat) (args : List AV) : evCall (CFX G T X) h (.fn f []) args = kCall G T h f (snaps h args) args:=by
 rw [← ZCy]
 simp only [evCall,Zxc]
noncomputable def kSX (o : Option (Ex × Env × Heap)) (b : IC) : Option (Ex × Env × Heap):=o.bind (thenB (evX G T X b))
theorem ZAQ (e : Env) (h : Heap) (b : IC) : kSX (G:=G) (T:=T) X (some (.norm,e,h)) b = evX G T X b e h:=rfl
theorem ZDE (e : Env) (h : Heap) (b : IC) : kSX (G:=G) (T:=T) X (some (.ret,e,h)) b = some (.ret,e,h):=rfl
theorem ZAP (i : Nat) (e : Env) (h : Heap) (b : IC) : kSX (G:=G) (T:=T) X (some (.exit i,e,h)) b = some (.exit i,e,h):=rfl
theorem ZHj (a b : IC) (e : Env) (h : Heap) : evX G T X (.seq a b) e h = kSX (G:=G) (T:=T) X (evX G T X a e h) b:=ZxU G T X a b e h
theorem ZBr {c : IC} {l : List Nat} {a : IC} (hc : c = .loop l a) (e : Env) (h : Heap) : evX G T X c e h = kSX (G:=G) (T:=T) X (evX G T X a (keepE l e) h) c:=by subst hc; exact Zvr G T X l a e h
theorem ZEB (ops : List IOper) (l : List Nat) (e : Env) (h : Heap) : evX G T X (.reg ops l []) e h = kR0 (evOps G (CFX G T X) ops e h) l:=ZxS G T X ops l [] e h
noncomputable def kIX (v : AV) (a b : IC) (e : Env) (h : Heap) : Option (Ex × Env × Heap):=match v with | .bool t => if t then evX G T X a e h else evX G T X b e h | _ => none
theorem ZAN (a b : IC) (e : Env) (h : Heap) : kIX (G:=G) (T:=T) X (.bool true) a b e h = evX G T X a e h:=rfl
theorem Zyi (a b : IC) (e : Env) (h : Heap) : kIX (G:=G) (T:=T) X (.bool false) a b e h = evX G T X b e h:=rfl
theorem ZEA (c : IOpd) (a b : IC) (e : Env) (h : Heap) : evX G T X (.cond c a b) e h = kIX (G:=G) (T:=T) X (opd e c) a b e h:=Zvq G T X c a b e h
theorem ZBq (id : Nat) (a : IC) (e : Env) (h : Heap) : evX G T X (.block id a) e h = kX id (evX G T X a e h):=ZsW G T X id a e h
theorem ZHi (e : Env) (h : Heap) : evX G T X .ret e h = some (.ret,e,h):=ZxT G T X e h
theorem ZEC (e : Env) (h : Heap) : evX G T X .skip e h = some (.norm,e,h):=Zvs G T X e h
def kY (F : CallF) (f : AV) (args : List AV) (d : Option Nat) (os : List IOper) (e : Env) (h : Heap) : Option (Env × Heap) :=
 kW G F (match f with | .yv => F true 0 args h | .fn f cap => F true f (args ++ cap) h | _ => none) d os e
theorem ZBC (F : CallF) (t : Nat) (args : List IOpd) (d : Option Nat) (os : List IOper) (e : Env) (h : Heap) :
  evOps G F (⟨d,.call true (.t t) args,none⟩ :: os) e h = kY (G:=G) F (opd e (.t t)) (args.map (opd e)) d os e h:=by
 rw [Zss]
 unfold kY
 refine congrArg (fun o => kW G F o d os e) ?_
 simp only [evW]
 cases opd e (.t t) <;> rfl
theorem ZIM (F : CallF) (args : List AV) (d : Option Nat) (os : List IOper) (e : Env) (h : Heap) : kY (G:=G) F .yv args d os e h = kW G F (F true 0 args h) d os e:=rfl
theorem ZsD (h0 : T 0 = none) (args : List AV) (h : Heap) : CFX G T X true 0 args h = X args h:=by
 unfold CFX
 rw [ZmC,h0]
 simp
end
def sXB:=ai (ai (ai (ai @ZEE @ZAQ) (ai @ZDE @ZAP)) (ai (ai @ZHj @ZEB) (ai @ZAN @Zyi))) (ai (ai (ai @ZEA @ZBq) (ai @ZHi @ZEC)) (ai @ZBC @ZIM))
def kF (e : Env) (o : Option (Ex × Env × Heap)) : Option (Ex × Env × Heap):=o.bind (endF e)
theorem ZGl (e e' : Env) (h : Heap) : kF e (some (.ret,e',h)) = some (.norm,e,h):=rfl
noncomputable def kRg (G : Nat→Option (List AV)) (T : Tbl) (v : AV) (ps : List Nat) (a b : IC) (e : Env) (h : Heap) : Option (Ex × Env × Heap):=match v with
 | .fn f cap => (T f).bind fun fn => if fn.res.isEmpty = true then kF e (evX G T (roundB (evL G T) ps (.seq a b) e) fn.body (numE 0 (.yv :: cap)) h) else none
 | _ => none
theorem ZBs (v : IOpd) (ps : List Nat) (a b : IC) (e : Env) (h : Heap) : evL G T (.rangeF v ps a b) e h = kRg G T (opd e v) ps a b e h:=ZwJ G T v ps a b e h
theorem ZGs {f : Nat} {fn : IFn} (hT : T f = some fn) (hr : fn.res.isEmpty = true) (cap : List AV) (ps : List Nat) (a b : IC) (e : Env) (h : Heap) :
  kRg G T (.fn f cap) ps a b e h = kF e (evX G T (roundB (evL G T) ps (.seq a b) e) fn.body (numE 0 (.yv :: cap)) h):=by
 unfold kRg; simp only [hT,Option.bind_some,if_pos hr]
theorem ZuB {E : IC→Env→Heap→Option (Ex × Env × Heap)} {ps : List Nat} {c : IC} {e e' : Env} {args : List AV} {h h' : Heap} (hl : args.length = ps.length∧args.all okV = true) (hc : E c (setPs ps args e) h = some (.norm,e',h')) :
  roundB E ps c e args h = some (.bool true,h'):=by
 unfold roundB
 rw [if_pos hl,hc]; rfl
theorem ZyY {f : Nat} {fn : IFn} (hT : T f = some fn) {args : List AV} {v r : AV} {h : Heap} (hk : kJ G fn.res (evL G T fn.body (numE 0 args) .nil) = some (v,h)) (hs : snap h.mem v = some r) : run G T f args = some r:=by
 rw [Zab G T hT]
 cases he : evL G T fn.body (numE 0 args) .nil with
 | none => rw [he] at hk; cases hk
 | some q =>
  obtain ⟨x,e,h2⟩:=q
  rw [he] at hk
  cases x <;> simp only [kJ,Option.bind_some,reduceCtorEq] at hk <;> simp only [kE,Option.bind_some]
  all_goals
   cases hr : resL G e h2 fn.res with
   | none => rw [hr] at hk; cases hk
   | some vs =>
    rw [hr] at hk
    simp only [Option.bind_some,Option.some.injEq,Prod.mk.injEq] at hk ⊢
    obtain ⟨rfl,rfl⟩:=hk
    exact hs
def SL (hs : List Blk) (M pc qc : Nat) (V : AV) (z : Bool) (l : List (Nat × Nat)) : Prop :=
 V = ZL z l∨(z = false∧∃ k w,V = .own k 0 l.length 2∧hs[k]? = some ⟨zcells l ++ w,false⟩∧k < M∧k≠pc∧k≠qc)
section
variable {hs hs' : List Blk} {M pc qc : Nat} {V : AV} {z : Bool} {l : List (Nat × Nat)}
theorem SL.mono (h : SL hs M pc qc V z l) (hk : ∀ j,j < M→j≠pc→j≠qc→hs'[j]? = hs[j]?) : SL hs' M pc qc V z l:=by
 rcases h with h | ⟨h,k,w,a,b,c,d,e⟩
 ·exact .inl h
 ·exact .inr ⟨h,k,w,a,(hk k c d e).trans b,c,d,e⟩
theorem SL.sn (h : SL hs M pc qc V z l) : snapA (snapG (Heap.mem ⟨hs,[]⟩) 3) V = some (ZL z l):=by
 rcases h with rfl | ⟨rfl,k,w,rfl,b,_⟩
 ·exact sn_Z _ z l
 ·rw [ZtK]; exact sg_Z (d:=2) (ZyM b)
theorem SL.okc (h : SL hs M pc qc V z l) : okCell V = true:=by
 rcases h with rfl | ⟨rfl,k,w,rfl,b,_⟩
 ·exact ZGN z l
 ·rfl
theorem SL.ca (h : SL hs M pc qc V z l) : cellsA V = [V]:=by
 rcases h with rfl | ⟨rfl,k,w,rfl,b,_⟩
 ·exact ca_Z z l
 ·rfl
theorem SL.len (h : SL hs M pc qc V z l) : lenA V = some l.length:=by
 rcases h with rfl | ⟨rfl,k,w,rfl,b,_⟩
 ·exact ZCp z l
 ·rfl
theorem SL.at_ (h : SL hs M pc qc V z l) {i : Nat} (hi : i < l.length) (h41 : l.length≤41) : ∃ P,iaddrV 2 V (.int .i64 (i : Int)) = some P∧∀ hs',(∀ j,j < M→j≠pc→j≠qc→hs'[j]? = hs[j]?)→rdAt G (Heap.mem ⟨hs',[]⟩) 2 P = some [.int .u64 ((zc l i).1 : Int),.int .u64 ((zc l i).2 : Int)]:=by
 rcases h with rfl | ⟨rfl,k,w,rfl,b,c,d,e⟩
 ·have ia:=Zfi (z:=z) (l:=l) (k:=.i64) (j:=(i : Int)) ⟨by omega,by omega⟩
  rw [Int.toNat_natCast] at ia
  exact ⟨_,ia,fun hs' _ => rd_Z _ hi⟩
 ·exact ⟨_,ZGc hi,fun hs' hk => ZHf hi ((hk k c d e).trans b)⟩
end
theorem Zsc (n b : Nat) : okCell (outV n b) = true:=by unfold outV; split <;> rfl
theorem Zvg (n b : Nat) : cellsA (outV n b) = [outV n b]:=by unfold outV; split <;> rfl
theorem Zya (h : Mem) (k1 k2 k3 : IntKind) (a b c : Int) (args : List AV) : frz h (.tup [.agg [.int k1 a,.int k2 b],.int k3 c]) args = []:=by simp [frz,refA,refA.go]
end Go.Cv
namespace Go.Cv
variable {G : Nat→Option (List AV)} {T : Tbl} {g : Nat}
set_option maxHeartbeats 8000000 in
theorem ZvL (J : Al G T g) (hP : HasK g T) (F : Fm) {l : List (Nat × Nat)} {V : AV} {z : Bool} {B : List Blk} (hl : l.length≤41) (hw : Zws F l) (hV : SL B B.length B.length B.length V z l) : ∀ (m i b : Nat) (bs : List Blk),1≤i→i + m = l.length→B.length≤bs.length→(∀ j,j < B.length→bs[j]? = B[j]?)→(1 < i→bs[b]? = some ⟨zcells (dT F l i),false⟩∧B.length≤b) →
  ∃ b' bs',evL G T Zcc [(0,.int .u8 F.u),(7,outV i b),(26,V),(27,.int .i64 (l.length : Int)),(28,.int .i64 (i : Int))] ⟨bs,[]⟩ =
   some (.exit 0,[(0,.int .u8 F.u),(7,outV l.length b'),(26,V),(27,.int .i64 (l.length : Int)),(28,.int .i64 (l.length : Int)),(29,.bool false)],⟨bs',[]⟩)∧B.length≤bs'.length∧(∀ j,j < B.length→bs'[j]? = B[j]?)∧(1 < l.length→bs'[b']? = some ⟨zcells (dT F l l.length),false⟩∧B.length≤b')
 | 0,i,b,bs,h1,hi,hk,hfr,hb => by
  have he : i = l.length:=by omega
  subst he
  have hn : ¬ (l.length : Int) < (l.length : Int):=by omega
  refine ⟨b,bs,?_,hk,hfr,hb⟩
  rw [Zsg]
  generalize outV l.length b = o at *
  repeat' (first | simp only [seval,exC,Zcb,ZB,hn] | simp (disch:=omega) only [dxB])
 | m + 1,i,b,bs,h1,hi,hk,hfr,hb => by
  have hil : i < l.length:=by omega
  have hlt : (i : Int) < (l.length : Int):=by omega
  have hne : ¬ (i : Int) = 0:=by omega
  have wa:=hw _ (ZqG hil)
  have w1 : IntKind.i64.wrap ((i : Int) + 1) = ((i + 1 : Nat) : Int):=by rw [Zac (by omega)]; rfl
  obtain ⟨P,io,ro⟩:=hV.at_ (G:=G) hil hl
  have ro:=ro bs fun j hj _ _ => hfr j hj
  have f1:=ZkY J hP F (n:=i) (by omega)
  have u1:=ZnL J F (md:=1) (by decide) (ZFQ F i) wa.1
  have u2:=ZnL J F (md:=1) (by decide) (ZFQ F i) wa.2
  have eE : elD F i (zc l i) = ((mulW2 F 1 (fI F i) (zc l i).1).1,(mulW2 F 1 (fI F i) (zc l i).2).1):=rfl
  obtain ⟨b2,hs2,ap,hb2e,hb2,fr⟩:=Zxl (hs:=bs ++ [⟨[.int .u64 ((zc l i).1 : Int),.int .u64 ((zc l i).2 : Int)],false⟩,⟨[.int .u64 ((elD F i (zc l i)).1 : Int),.int .u64 ((elD F i (zc l i)).2 : Int)],false⟩]) (c:=bs.length + 1) (b:=b) (i:=i) (L:=dT F l i) h1 (by omega) (by rw [List.getElem?_append_right (by omega),Nat.add_sub_cancel_left]; rfl) (ZxE F (by omega)) (fun q => by
   have:=(hb q).1
   rw [List.getElem?_append_left (List.getElem?_eq_some_iff.1 this).1]; exact this)
  rw [ZuS,← ZDl F h1 hil] at hb2
  rw [eE] at ap
  dsimp only at ap
  have hl2 : bs.length < hs2.length:=by
   have:=(List.getElem?_eq_some_iff.1 hb2).1
   rw [hb2e,List.length_append] at this; simp only [List.length_cons,List.length_nil] at this; omega
  have hfr2 : ∀ j,j < B.length→hs2[j]? = B[j]?:=fun j hj => by
   rw [fr j (by rw [List.length_append]; omega) (fun q e => by have:=(hb q).2; omega),List.getElem?_append_left (by omega)]; exact hfr j hj
  obtain ⟨b',bs',ih,hk',hfk,hfin⟩:=ZvL J hP F hl hw hV m (i + 1) _ hs2 (by omega) (by omega) (by omega) hfr2 (fun _ => ⟨hb2,by rw [hb2e,List.length_append]; omega⟩)
  refine ⟨b',bs',?_,hk',hfk,hfin⟩
  rw [← ih,Zsg]
  generalize outV i b = o at *
  generalize outV (i + 1) b2 = o2 at *
  generalize mulW2 F 1 (fI F i) (zc l i).1 = M1 at *
  generalize mulW2 F 1 (fI F i) (zc l i).2 = M2 at *
  generalize fI F i = ww at *
  generalize (rndW F 1 (intD (i : Int))).2 = fl at *
  generalize zc l i = a at *
  clear hb hb2 hfin hfk fr hb2e hfr2 hfr hk' hl2
  repeat' (first | simp only [seval,exC,Zcb,gaB,hlt,hne,io,ro,f1,u1,u2,Zzm,ap,w1] | simp (disch:=omega) only [dxB])
set_option maxHeartbeats 8000000 in
theorem Zuw (J : Al G T g) (hP : HasK g T) (F : Fm) {l : List (Nat × Nat)} {V : AV} {z : Bool} {bs : List Blk} (hl : Pg F l) (hV : SL bs bs.length bs.length bs.length V z l) :
  ∃ b' bs',kJ G Zdb.res (evL G T Zdb.body [(0,.int .u8 F.u),(1,V)] ⟨bs,[]⟩) = some (.tup [outV l.length b',.int .i64 0],⟨bs',[]⟩)∧bs.length≤bs'.length∧(∀ j,j < bs.length→bs'[j]? = bs[j]?)∧(1 < l.length→bs'[b']? = some ⟨zcells (dE F l),false⟩∧bs.length≤b'):=by
 have z0 : (0 : Nat) < 2 * F.sg:=by cases F <;> decide
 have f0 : F.fin 0:=Zbu.2 (Or.inl (by cases F <;> decide))
 have o1:=Zjx J hP F (z:=z) (l:=l) (a:=0) (b:=0) (Pg.w64 hl.w) (by decide) (by decide)
 rw [Zqb hl.len ⟨hl.w,z0,z0⟩ ⟨hl.f,f0,f0⟩] at o1
 have sg:=hV.sn
 have ln:=hV.len
 by_cases h0 : l.length = 0
 ·have hn : (l.length : Int) = 0:=by omega
  refine ⟨0,bs,?_,Nat.le_refl _,fun j _ => rfl,fun q => absurd q (by omega)⟩
  rw [show outV l.length 0 = AV.nil from if_pos (by omega)]
  simp only [zA,cast0] at *
  repeat' (first | simp only [seval,exC,Zdb,Zsg,Zcb,ZrN,sg,ln,o1,hn] | simp (disch:=omega) only [dxB])
 ·obtain ⟨P,io,ro⟩:=hV.at_ (G:=G) (i:=0) (by omega) (by have:=hl.len; omega)
  have ro:=ro bs fun j _ _ _ => rfl
  have hlt : (0 : Int) < (l.length : Int):=by omega
  obtain ⟨b',bs',lp,hk',hfk,hfin⟩:=ZvL J hP F (by have:=hl.len; omega) hl.w hV (l.length - 1) 1 0 (bs ++ [⟨[.int .u64 ((zc l 0).1 : Int),.int .u64 ((zc l 0).2 : Int)],false⟩]) (by omega) (by omega) (by simp) (fun j hj => List.getElem?_append_left hj) (fun q => absurd q (by omega))
  rw [show outV 1 0 = AV.nil from rfl,show (((1 : Nat)) : Int) = 1 from rfl] at lp
  rw [ZxD] at hfin
  refine ⟨b',bs',?_,hk',hfk,hfin⟩
  have st0 : evL G T Zcc [(0,.int .u8 F.u),(7,.nil),(26,V),(27,.int .i64 (l.length : Int)),(28,.int .i64 0)] ⟨bs,[]⟩ =
    evL G T Zcc [(0,.int .u8 F.u),(7,.nil),(26,V),(27,.int .i64 (l.length : Int)),(28,.int .i64 1)] ⟨bs ++ [⟨[.int .u64 ((zc l 0).1 : Int),.int .u64 ((zc l 0).2 : Int)],false⟩],[]⟩:=by
   have w1 : IntKind.i64.wrap ((0 : Int) + 1) = 1:=rfl
   rw [Zsg]
   generalize zc l 0 = a at *
   simp only [cast0] at *
   repeat' (first | simp only [seval,exC,Zcb,gaB,hlt,io,ro,w1] | simp (disch:=omega) only [dxB])
  rw [← st0] at lp
  generalize outV l.length b' = o at *
  clear hfk hfin st0 hk' hV
  simp only [zA,cast0] at *
  repeat' (first | simp only [seval,exC,Zdb,gaB,ZrN,sg,ln,o1,lp] | simp (disch:=omega) only [dxB])
structure PM (F : Fm) (M pc qc : Nat) (hs : List Blk) (V W : AV) (z y : Bool) (l D : List (Nat × Nat)) (t : Bool) (x : Nat × Nat) (steps : Nat) (P : List (Nat × Nat)) (w0 : Int) (b : Nat) : Prop where
 hw : hs[M]? = some (wkB F V W t)
 hx : hs[M + 1]? = some (zB x)
 hn : hs[M + 2]? = some ⟨[.int .i64 (steps : Int)],false⟩
 hp : hs[pc]? = some ⟨[outV (P.length + 1) b],false⟩
 hq : hs[qc]? = some ⟨[.int .i64 w0],false⟩
 hb : 1 < P.length + 1→hs[b]? = some ⟨zcells P,false⟩∧M + 3≤b
 hv : SL hs M pc qc V z l
 hd : SL hs M pc qc W y D
 lt : pc < M∧qc < M∧pc≠qc
 len : M + 3≤hs.length
noncomputable def rdX (G : Nat→Option (List AV)) (T : Tbl) (pc qc : Nat) (fv : AV) : XF:=roundB (evL G T) [64,65] (.seq ZeE ZeF) [(8,.ptr pc 0),(9,.ptr qc 0),(63,fv)]
set_option maxHeartbeats 8000000 in
theorem Zrk {F : Fm} {M pc qc : Nat} {hs : List Blk} {V W fv : AV} {z y : Bool} {l D : List (Nat × Nat)} {t : Bool} {x : Nat × Nat} {steps : Nat} {P : List (Nat × Nat)} {w0 : Int} {b : Nat} (h : PM F M pc qc hs V W z y l D t x steps P w0 b) (hP : P.length≤900) (why : Int) :
  ∃ b' hs',rdX G T pc qc fv [zA x.1 x.2,.int .i64 why] ⟨hs,[]⟩ = some (.bool true,⟨hs',[]⟩)∧PM F M pc qc hs' V W z y l D t x steps (P ++ [x]) why b'∧(∀ j,j < hs.length→j≠pc→j≠qc→(1 < P.length + 1→j≠b)→hs'[j]? = hs[j]?)∧hs.length≤hs'.length:=by
 obtain ⟨l1,l2,l3⟩:=h.lt
 have ll:=h.len
 obtain ⟨b2,hs2,ap,hb2e,hb2,fr⟩:=Zxl (hs:=hs ++ [zB x,zB x]) (c:=hs.length + 1) (b:=b) (i:=P.length + 1) (L:=P) (x:=.int .u64 (x.1 : Int)) (y:=.int .u64 (x.2 : Int)) (by omega) (by omega) (by rw [List.getElem?_append_right (by omega),Nat.add_sub_cancel_left]; rfl) (by omega) (fun q => by
   have:=(h.hb q).1
   rw [List.getElem?_append_left (List.getElem?_eq_some_iff.1 this).1]; exact this)
 have hbl : hs.length < hs2.length:=by
  have:=(List.getElem?_eq_some_iff.1 hb2).1
  rw [hb2e,List.length_append] at this; simp only [List.length_cons,List.length_nil] at this; omega
 have fr' : ∀ j,j < hs.length→(1 < P.length + 1→j≠b)→hs2[j]? = hs[j]?:=fun j hj hq => by
  rw [fr j (by rw [List.length_append]; omega) hq,List.getElem?_append_left hj]
 have frM : ∀ j,j < M + 3→hs2[j]? = hs[j]?:=fun j hj => fr' j (by omega) fun q e => by have:=(h.hb q).2; omega
 have hp1 : ∀ L,(hs ++ L)[pc]? = some ⟨[outV (P.length + 1) b],false⟩:=fun L => by rw [List.getElem?_append_left (by omega)]; exact h.hp
 have hp2 : hs2[pc]? = some ⟨[outV (P.length + 1) b],false⟩:=by rw [frM pc (by omega)]; exact h.hp
 have hq2 : ∀ v,(hs2.set pc v)[qc]? = some ⟨[.int .i64 w0],false⟩:=fun v => by rw [List.getElem?_set_ne l3,frM qc (by omega)]; exact h.hq
 refine ⟨b2,(hs2.set pc ⟨[outV (P.length + 1 + 1) b2],false⟩).set qc ⟨[.int .i64 why],false⟩,?_,?_,?_,?_⟩
 ·unfold rdX
  refine ZuB (e':=[]) (by simp [okV,zA,cellsA,okCell]) ?_
  have e1:=Zsc (P.length + 1) b
  have e2:=Zvg (P.length + 1) b
  have e3:=Zsc (P.length + 1 + 1) b2
  have e4:=Zvg (P.length + 1 + 1) b2
  simp only [setPs]
  clear hb2 fr fr' frM hb2e hbl h
  generalize outV (P.length + 1 + 1) b2 = o2 at *
  generalize outV (P.length + 1) b = o at *
  simp only [zA,zB] at *
  repeat' (first | simp only [seval,exC,ZeE,ZeF,gaB,Zzm,hp1,hp2,hq2,ap,e1,e2,e3,e4] | simp (disch:=omega) only [dxB])
 ·have gs : ∀ (j : Nat) (u v : Blk),j≠pc→j≠qc→((hs2.set pc u).set qc v)[j]? = hs2[j]?:=fun j u v a c => by rw [List.getElem?_set_ne (fun q => c q.symm),List.getElem?_set_ne (fun q => a q.symm)]
  have hlt : pc < hs2.length:=by omega
  have hlt2 : qc < hs2.length:=by omega
  have sm : ∀ j,j < M→j≠pc→j≠qc→((hs2.set pc ⟨[outV (P.length + 1 + 1) b2],false⟩).set qc ⟨[.int .i64 why],false⟩)[j]? = hs[j]?:=fun j a c d => by rw [gs j _ _ c d,frM j (by omega)]
  refine ⟨?_,?_,?_,?_,?_,fun _ => ⟨?_,?_⟩,h.hv.mono sm,h.hd.mono sm,h.lt,?_⟩
  ·rw [gs _ _ _ (by omega) (by omega),frM _ (by omega)]; exact h.hw
  ·rw [gs _ _ _ (by omega) (by omega),frM _ (by omega)]; exact h.hx
  ·rw [gs _ _ _ (by omega) (by omega),frM _ (by omega)]; exact h.hn
  ·rw [List.getElem?_set_ne (fun q => l3 q.symm),List.getElem?_set_self hlt,List.length_append]; rfl
  ·rw [List.getElem?_set_self (by rw [List.length_set]; exact hlt2)]
  ·have hb3 : M + 3≤b2:=by rw [hb2e,List.length_append]; omega
   rw [gs _ _ _ (by omega) (by omega),hb2,Zoy]; rfl
  ·rw [hb2e,List.length_append]; omega
  ·rw [List.length_set,List.length_set]; omega
 ·intro j hj a c d
  rw [List.getElem?_set_ne (fun q => c q.symm),List.getElem?_set_ne (fun q => a q.symm)]
  exact fr' j hj d
 ·rw [List.length_set,List.length_set]; omega
theorem PM.ext {F : Fm} {M pc qc : Nat} {hs : List Blk} {V W : AV} {z y : Bool} {l D : List (Nat × Nat)} {t : Bool} {x : Nat × Nat} {steps : Nat} {P : List (Nat × Nat)} {w0 : Int} {b : Nat} (h : PM F M pc qc hs V W z y l D t x steps P w0 b) (B : Blk) : PM F M pc qc (hs ++ [B]) V W z y l D t x steps P w0 b:=by
 have ll:=h.len
 obtain ⟨l1,l2,l3⟩:=h.lt
 have e : ∀ j,j < hs.length→(hs ++ [B])[j]? = hs[j]?:=fun j hj => List.getElem?_append_left hj
 refine ⟨?_,?_,?_,?_,?_,fun q => ⟨?_,(h.hb q).2⟩,h.hv.mono fun j hj _ _ => e j (by omega),h.hd.mono fun j hj _ _ => e j (by omega),h.lt,by rw [List.length_append]; omega⟩
 ·rw [e _ (by omega)]; exact h.hw
 ·rw [e _ (by omega)]; exact h.hx
 ·rw [e _ (by omega)]; exact h.hn
 ·rw [e _ (by omega)]; exact h.hp
 ·rw [e _ (by omega)]; exact h.hq
 ·have:=(h.hb q).1
  rw [e _ (List.getElem?_eq_some_iff.1 this).1]; exact this
theorem PM.setx {F : Fm} {M pc qc : Nat} {hs : List Blk} {V W : AV} {z y : Bool} {l D : List (Nat × Nat)} {t : Bool} {x : Nat × Nat} {steps : Nat} {P : List (Nat × Nat)} {w0 : Int} {b : Nat} (h : PM F M pc qc hs V W z y l D t x steps P w0 b) (x' : Nat × Nat) : PM F M pc qc (hs.set (M + 1) (zB x')) V W z y l D t x' steps P w0 b:=by
 have ll:=h.len
 obtain ⟨l1,l2,l3⟩:=h.lt
 have e : ∀ j,j≠M + 1→(hs.set (M + 1) (zB x'))[j]? = hs[j]?:=fun j hj => List.getElem?_set_ne (fun q => hj q.symm)
 refine ⟨?_,?_,?_,?_,?_,fun q => ⟨?_,(h.hb q).2⟩,h.hv.mono fun j hj _ _ => e j (by omega),h.hd.mono fun j hj _ _ => e j (by omega),h.lt,by rw [List.length_set]; omega⟩
 ·rw [e _ (by omega)]; exact h.hw
 ·rw [List.getElem?_set_self (by omega)]
 ·rw [e _ (by omega)]; exact h.hn
 ·rw [e _ (by omega)]; exact h.hp
 ·rw [e _ (by omega)]; exact h.hq
 ·rw [e _ (by have:=(h.hb q).2; omega)]; exact (h.hb q).1
theorem Zul (X : XF) (e : Env) (h : Heap) : evX G T X Zbk e h = kSX (G:=G) (T:=T) X (evX G T X ZaH (keepE [0,1,2,3,5] e) h) Zbk:=ZBr X rfl e h
set_option maxHeartbeats 16000000 in
theorem ZxX (J : Al G T g) (hP : HasK g T) (hO : HasO g T) (h0 : T 0 = none) (F : Fm) {M pc qc : Nat} {V W fv : AV} {z y t : Bool} {l D : List (Nat × Nat)} {steps : Nat} (hst : steps≤100) (hl : Pg F l) (hD : ¬ 41 < D.length) (wD : Zws F D) (ht : t = true↔Zfs F D) :
  ∀ (m i : Nat) (x : Nat × Nat) (P : List (Nat × Nat)) (w0 : Int) (b : Nat) (hs : List Blk),i + m = steps→P.length = i→Zw F x→Zf F x→PM F M pc qc hs V W z y l D t x steps P w0 b →
  ∃ b' x' hs' e',evX G T (rdX G T pc qc fv) Zbk [(0,.yv),(1,.ptr M 0),(2,.ptr (M + 1) 0),(3,.ptr (M + 2) 0),(5,.int .i64 (i : Int))] ⟨hs,[]⟩ = some (.ret,e',⟨hs',[]⟩) ∧
   PM F M pc qc hs' V W z y l D t x' steps (P ++ (paP F l D m x).1) ((paP F l D m x).2 : Int) b'∧∀ j,j < M→j≠pc→j≠qc→hs'[j]? = hs[j]?:=by
 intro m
 induction m with
 | zero =>
  intro i x P w0 b hs him hPl wx fx h
  have hi : i = steps:=by omega
  subst hi
  have s1:=ZGV J hP hO F (z:=z) (y:=y) (last:=true) hl hD wD ht wx fx
  have hz:=(Zqa (F:=F) (l:=l) (D:=D) x true).2.2.2.1 rfl
  have hz' : ¬ (((onP F l D x true).2 : Nat) : Int) = 0:=by omega
  obtain ⟨b',hs2,hX,h2,fr,hlen⟩:=Zrk (G:=G) (T:=T) (fv:=fv) (h.ext (zB (onP F l D x true).1)) (by omega) ((onP F l D x true).2 : Int)
  have hx1:=(h.ext (zB (onP F l D x true).1)).hx
  have cy:=ZsD (G:=G) (T:=T) (rdX G T pc qc fv) h0
  have ll:=h.len
  refine ⟨b',x,hs2,[(0,.yv),(1,.ptr M 0),(2,.ptr (M + 1) 0),(3,.ptr (M + 2) 0),(5,.int .i64 (i : Int)),(6,.ptr hs.length 0),(27,.bool true)],?_,h2,fun j a c d => ?_⟩
  ·have svV:=h.hv.sn
   have svW:=h.hd.sn
   have k1:=h.hw
   have k2:=h.hx
   have k3:=h.hn
   clear h2 fr h hz
   generalize onP F l D x true = o at *
   generalize rdX G T pc qc fv = X at *
   rw [Zul]
   simp only [zA,zB,wkA,wkB] at *
   repeat' (first | simp only [seval,exC,ZaH,sXB,svV,svW,k1,k2,k3,s1,hx1,cy,hX,hz',Zya,gaB] | simp (disch:=omega) only [dxB])
  ·rw [fr j (by rw [List.length_append]; omega) c d (fun q e => by have:=(h.hb q).2; omega),List.getElem?_append_left (by omega)]
 | succ m ih =>
  intro i x P w0 b hs him hPl wx fx h
  have hi : ¬ (i : Int) = (steps : Int):=by omega
  have s1:=ZGV J hP hO F (z:=z) (y:=y) (last:=false) hl hD wD ht wx fx
  obtain ⟨b',hs2,hX,h2,fr,hlen⟩:=Zrk (G:=G) (T:=T) (fv:=fv) (h.ext (zB (onP F l D x false).1)) (by omega) ((onP F l D x false).2 : Int)
  have hx1:=(h.ext (zB (onP F l D x false).1)).hx
  have cy:=ZsD (G:=G) (T:=T) (rdX G T pc qc fv) h0
  have ll:=h.len
  obtain ⟨l1,l2,l3⟩:=h.lt
  have fr' : ∀ j,j < M→j≠pc→j≠qc→hs2[j]? = hs[j]?:=fun j a c d => by
   rw [fr j (by rw [List.length_append]; omega) c d (fun q e => by have:=(h.hb q).2; omega),List.getElem?_append_left (by omega)]
  have svV:=h.hv.sn
  have svW:=h.hd.sn
  have k1:=h.hw
  have k2:=h.hx
  have k3:=h.hn
  by_cases hz : (onP F l D x false).2 = 0
  ·obtain ⟨wy,fy,_⟩:=Zsd hz
   have w1 : IntKind.i64.wrap ((i : Int) + 1) = ((i + 1 : Nat) : Int):=by rw [Zac (by omega)]; rfl
   have k4 : hs2[hs.length]? = some (zB (onP F l D x false).1):=by
    rw [fr hs.length (by rw [List.length_append]; simp) (by omega) (by omega) (fun q e => by have:=(List.getElem?_eq_some_iff.1 (h.hb q).1).1; omega),List.getElem?_append_right (Nat.le_refl _),Nat.sub_self]; rfl
   have k5:=h2.hx
   obtain ⟨b3,x3,hs3,e3,r1,r2,r3⟩:=ih (i + 1) (onP F l D x false).1 (P ++ [x]) ((onP F l D x false).2 : Int) b' (hs2.set (M + 1) (zB (onP F l D x false).1)) (by omega) (by rw [List.length_append,hPl]; rfl) wy fy (h2.setx _)
   refine ⟨b3,x3,hs3,e3,?_,?_,fun j a c d => ?_⟩
   ·clear r2 r3 h2 fr fr' h ih wy fy
    have hz0 : (((onP F l D x false).2 : Nat) : Int) = 0:=by rw [hz]; rfl
    rw [hz0] at s1 hX
    generalize (onP F l D x false).1 = o at *
    generalize rdX G T pc qc fv = X at *
    rw [← r1,Zul]
    simp only [zA,zB,wkA,wkB,cast0] at *
    repeat' (first | simp only [seval,exC,ZaH,sXB,svV,svW,k1,k2,k3,k4,k5,s1,hx1,cy,hX,hi,w1,Zya,gaB] | simp (disch:=omega) only [dxB])
   ·rw [paP,if_pos hz]
    simpa using r2
   ·rw [r3 j a c d,List.getElem?_set_ne (by omega)]; exact fr' j a c d
  ·have hz' : ¬ (((onP F l D x false).2 : Nat) : Int) = 0:=by omega
   refine ⟨b',x,hs2,[(0,.yv),(1,.ptr M 0),(2,.ptr (M + 1) 0),(3,.ptr (M + 2) 0),(5,.int .i64 (i : Int)),(6,.ptr hs.length 0),(27,.bool true)],?_,by rw [paP,if_neg hz]; exact h2,fr'⟩
   clear h2 fr fr' h ih
   generalize onP F l D x false = o at *
   generalize rdX G T pc qc fv = X at *
   rw [Zul]
   simp only [zA,zB,wkA,wkB] at *
   repeat' (first | simp only [seval,exC,ZaH,sXB,svV,svW,k1,k2,k3,s1,hx1,cy,hX,hi,hz',Zya,gaB] | simp (disch:=omega) only [dxB])
theorem ZrP (e : Env) (h : Heap) : evL G T ZaY e h = kS G T (evL G T ZaX (keepE [3,6,8,9,13,45,46,47] e) h) ZaY:=Zae G T rfl e h
set_option maxHeartbeats 8000000 in
theorem Zrd (J : Al G T g) (hO : HasO g T) (F : Fm) {V W : AV} {z y : Bool} {l D : List (Nat × Nat)} {n0 pw : Nat} {e3 e6 e8 e9 : AV} (h41 : D.length≤41) (wD : Zws F D) (hpw : pw < n0) : ∀ (m i : Nat) (t : Bool) (hs : List Blk),i + m = D.length→hs[pw]? = some (wkB F V W t)→SL hs n0 pw pw V z l→SL hs n0 pw pw W y D→n0≤hs.length →
  ∃ hs' t',evL G T ZaY [(3,e3),(6,e6),(8,e8),(9,e9),(13,.ptr pw 0),(45,W),(46,.int .i64 (D.length : Int)),(47,.int .i64 (i : Int))] ⟨hs,[]⟩ =
    some (.exit 0,[(3,e3),(6,e6),(8,e8),(9,e9),(13,.ptr pw 0),(45,W),(46,.int .i64 (D.length : Int)),(47,.int .i64 (D.length : Int)),(48,.bool false)],⟨hs',[]⟩) ∧
   hs'[pw]? = some (wkB F V W t')∧(t' = true↔t = true∧Zfs F (D.drop i))∧(∀ j,j < n0→j≠pw→hs'[j]? = hs[j]?)∧n0≤hs'.length
 | 0,i,t,hs,hi,hk,hv,hd,hn => by
  have he : i = D.length:=by omega
  subst he
  have hlt : ¬ (D.length : Int) < (D.length : Int):=by omega
  refine ⟨hs,t,?_,hk,by rw [List.drop_length]; simp [Zue],fun _ _ _ => rfl,hn⟩
  rw [ZrP]
  repeat' (first | simp only [seval,exC,ZaX,hlt] | simp (disch:=omega) only [dxB])
 | m + 1,i,t,hs,hi,hk,hv,hd,hn => by
  have hil : i < D.length:=by omega
  have hlt : (i : Int) < (D.length : Int):=by omega
  have w1 : IntKind.i64.wrap ((i : Int) + 1) = ((i + 1 : Nat) : Int):=by rw [Zac (by omega)]; rfl
  have wa:=wD _ (ZqG hil)
  obtain ⟨P,io,ro⟩:=hd.at_ (G:=G) hil h41
  have ro:=ro hs fun _ _ _ _ => rfl
  have n1:=Zlr J hO F (z:=z) (y:=y) (t:=true) (l:=l) (D:=D) wa
  have ex : ∀ j,j < n0→(hs ++ [zB (zc D i)])[j]? = hs[j]?:=fun j hj => List.getElem?_append_left (by omega)
  have hk1 : (hs ++ [zB (zc D i)])[pw]? = some (wkB F V W t):=by rw [ex pw hpw]; exact hk
  have hv1:=hv.mono (hs':=hs ++ [zB (zc D i)]) fun j a _ _ => ex j a
  have hd1:=hd.mono (hs':=hs ++ [zB (zc D i)]) fun j a _ _ => ex j a
  have svV:=hv1.sn
  have svW:=hd1.sn
  have key : ∀ t1,(t1 = true↔t = true∧Zf F (zc D i))→evL G T ZaY [(3,e3),(6,e6),(8,e8),(9,e9),(13,.ptr pw 0),(45,W),(46,.int .i64 (D.length : Int)),(47,.int .i64 (i : Int))] ⟨hs,[]⟩ =
    evL G T ZaY [(3,e3),(6,e6),(8,e8),(9,e9),(13,.ptr pw 0),(45,W),(46,.int .i64 (D.length : Int)),(47,.int .i64 ((i + 1 : Nat) : Int))] ⟨(hs ++ [zB (zc D i)]).set pw (wkB F V W t1),[]⟩:=by
   intro t1 ht1
   cases t with
   | false =>
    have h1 : t1 = false:=by cases t1 <;> simp_all
    subst h1
    clear hv hd hv1 hd1 ex wa n1 ht1
    rw [ZrP]
    generalize zc D i = a at *
    simp only [zB,wkB,wkA,zA] at *
    repeat' (first | simp only [seval,exC,ZaX,hlt,io,ro,hk1,gaB,w1] | simp (disch:=omega) only [dxB])
   | true =>
    by_cases h2 : Zf F (zc D i)
    ·have h1 : t1 = true:=ht1.2 ⟨rfl,h2⟩
     subst h1
     rw [@decide_eq_true _ (Classical.propDecidable _) h2] at n1
     clear hv hd hv1 hd1 ex wa ht1 h2
     rw [ZrP]
     generalize zc D i = a at *
     simp only [zB,wkB,wkA,zA] at *
     repeat' (first | simp only [seval,exC,ZaX,hlt,io,ro,hk1,gaB,svV,svW,n1,ZrM,w1] | simp (disch:=omega) only [dxB])
    ·have h1 : t1 = false:=by cases t1 <;> simp_all
     subst h1
     rw [@decide_eq_false _ (Classical.propDecidable _) h2] at n1
     clear hv hd hv1 hd1 ex wa ht1 h2
     rw [ZrP]
     generalize zc D i = a at *
     simp only [zB,wkB,wkA,zA] at *
     repeat' (first | simp only [seval,exC,ZaX,hlt,io,ro,hk1,gaB,svV,svW,n1,ZrM,w1] | simp (disch:=omega) only [dxB])
  obtain ⟨t1,ht1⟩ : ∃ t1 : Bool,(t1 = true↔t = true∧Zf F (zc D i)):=⟨@decide (t = true∧Zf F (zc D i)) (Classical.propDecidable _),by simp⟩
  have fs : ∀ j,j < n0→j≠pw→((hs ++ [zB (zc D i)]).set pw (wkB F V W t1))[j]? = hs[j]?:=fun j a c => by rw [List.getElem?_set_ne (fun q => c q.symm)]; exact ex j a
  obtain ⟨hs',t',r1,r2,r3,r4,r5⟩:=Zrd J hO F (e3:=e3) (e6:=e6) (e8:=e8) (e9:=e9) h41 wD hpw m (i + 1) t1 ((hs ++ [zB (zc D i)]).set pw (wkB F V W t1)) (by omega) (by rw [List.getElem?_set_self (by rw [List.length_append]; omega)]) (hv.mono fun j a c _ => fs j a c) (hd.mono fun j a c _ => fs j a c) (by rw [List.length_set,List.length_append]; omega)
  refine ⟨hs',t',(key t1 ht1).trans r1,r2,?_,fun j a c => (r4 j a c).trans (fs j a c),r5⟩
  rw [r3,ht1,ZiY hil,Zru,and_assoc]
theorem ZFT (h : Mem) (k1 k2 k3 k4 : IntKind) (a b c d : Int) (args : List AV) : frz h (.tup [.agg [.int k1 a,.int k2 b,.int k3 c],.int k4 d]) args = []:=by simp [frz,refA,refA.go]
theorem SL.up {hs hs' : List Blk} {V : AV} {z : Bool} {l : List (Nat × Nat)} {n M pc qc : Nat} (h : SL hs n n n V z l) (hM : n≤M) (hp : n≤pc) (hq : n≤qc) (hk : ∀ j,j < n→hs'[j]? = hs[j]?) : SL hs' M pc qc V z l:=by
 rcases h with h | ⟨h,k,w,a,b,c,_,_⟩
 ·exact .inl h
 ·exact .inr ⟨h,k,w,a,(hk k c).trans b,by omega,by omega,by omega⟩
theorem SL.out {F : Fm} {hs : List Blk} {l : List (Nat × Nat)} {b M pc qc : Nat} (h : 1 < l.length→hs[b]? = some ⟨zcells (dE F l),false⟩∧b < M∧b≠pc∧b≠qc) : SL hs M pc qc (outV l.length b) (decide (l.length≤1)) (dE F l):=by
 have hd : (dE F l).length = l.length - 1:=by rw [← ZxD]; exact ZxE F (Nat.le_refl _)
 by_cases h1 : l.length≤1
 ·rw [decide_eq_true h1,ZFI F h1]
  exact .inl (by rw [outV,if_pos h1]; rfl)
 ·obtain ⟨a,c,d,e⟩:=h (by omega)
  refine .inr ⟨by rw [decide_eq_false h1],b,[],?_,by rw [List.append_nil]; exact a,c,d,e⟩
  rw [outV,if_neg h1,hd]
theorem dE_w (F : Fm) (l : List (Nat × Nat)) : Zws F (dE F l):=ZFN F 1 _
theorem ZFH (F : Fm) (l : List (Nat × Nat)) : (dE F l).length = l.length - 1:=by rw [← ZxD]; exact ZxE F (Nat.le_refl _)
set_option maxHeartbeats 32000000 in
theorem ZyG (J : Al G T g) (hP : HasK g T) (hO : HasO g T) (h0 : T 0 = none) (F : Fm) {V : AV} {z : Bool} {l : List (Nat × Nat)} {p : Nat × Nat} {steps : Nat} {bs : List Blk} (hl : Pg F l) (wp : Zw F p) (fp : Zf F p) (hst : steps≤100) (hV : SL bs bs.length bs.length bs.length V z l) :
  ∃ b' bs',kJ G Zca.res (evL G T Zca.body [(0,.int .u8 F.u),(1,V),(2,zA p.1 p.2),(3,.int .i64 (steps : Int))] ⟨bs,[]⟩) =
    some (.tup [outV ((paP F l (dE F l) steps p).1.length + 1) b',.int .i64 ((paP F l (dE F l) steps p).2 : Int),.int .i64 0],⟨bs',[]⟩) ∧
   (∀ j,j < bs.length→bs'[j]? = bs[j]?)∧bs'[b']? = some ⟨zcells (paP F l (dE F l) steps p).1,false⟩∧bs.length≤b':=by
 have e1:=Zlp J hP F (z:=z) (Pg.w64 hl.w) (Zbm wp.1) (Zbm wp.2) (Zqb hl.len ⟨hl.w,wp⟩ ⟨hl.f,fp⟩) hl.len hl.w wp
 rw [show ((p.1,p.2) : Nat × Nat) = p from rfl] at e1
 have hDl:=ZFH F l
 have h41:=hl.len
 have ex : ∀ L j,j < bs.length→(bs ++ L)[j]? = bs[j]?:=fun L j hj => List.getElem?_append_left hj
 have sv1:=(hV.up (hs':=bs ++ [zB p,⟨[.nil],false⟩,⟨[.int .i64 0],false⟩]) (M:=bs.length) (pc:=bs.length) (qc:=bs.length) (Nat.le_refl _) (Nat.le_refl _) (Nat.le_refl _) (ex _)).sn
 have okV:=hV.okc
 have caV:=hV.ca
 -- the derivative
 obtain ⟨b1,hs1,dv,hn1,hf1,hb1⟩:=Zuw J hP F (V:=V) (z:=z) (bs:=bs ++ [zB p,⟨[.nil],false⟩,⟨[.int .i64 0],false⟩,⟨[.int .u64 ((evE F p l).1.1 : Int),.int .u64 ((evE F p l).1.2 : Int),.int .u64 ((evE F p l).2 : Int)],false⟩,⟨[.int .u8 F.u,V,.nil,.bool true],false⟩]) hl (hV.up (by rw [List.length_append]; omega) (by rw [List.length_append]; omega) (by rw [List.length_append]; omega) (ex _))
 have hlen1 : ∀ (a b c d e : Blk),(bs ++ [a,b,c,d,e]).length = bs.length + 5:=fun a b c d e => by rw [List.length_append]; rfl
 rw [hlen1] at hn1 hf1 hb1
 have hf1' : ∀ j,j < bs.length→hs1[j]? = bs[j]?:=fun j hj => (hf1 j (by omega)).trans (ex _ j hj)
 have q0 : hs1[bs.length]? = some (zB p):=by rw [hf1 _ (by omega),ga0]; rfl
 have q1 : hs1[bs.length + 1]? = some ⟨[.nil],false⟩:=by rw [hf1 _ (by omega),ga1]; rfl
 have q2 : hs1[bs.length + 2]? = some ⟨[.int .i64 0],false⟩:=by rw [hf1 _ (by omega),ga2]; rfl
 have q4 : hs1[bs.length + 4]? = some ⟨[.int .u8 F.u,V,.nil,.bool true],false⟩:=by rw [hf1 _ (by omega),ga4]; rfl
 -- is it level
 have hb1' : 1 < l.length→b1 < hs1.length:=fun q => (List.getElem?_eq_some_iff.1 (hb1 q).1).1
 have fset : ∀ v j,j≠bs.length + 4→(hs1.set (bs.length + 4) v)[j]? = hs1[j]?:=fun v j hj => List.getElem?_set_ne (fun q => hj q.symm)
 obtain ⟨hs3,t',lv,k1,k2,k3,k4⟩:=Zrd J hO F (V:=V) (W:=outV l.length b1) (z:=z) (y:=decide (l.length≤1)) (l:=l) (D:=dE F l) (n0:=hs1.length) (pw:=bs.length + 4) (e3:=.int .i64 (steps : Int)) (e6:=.ptr bs.length 0) (e8:=.ptr (bs.length + 1) 0) (e9:=.ptr (bs.length + 2) 0) (by omega) (dE_w F l) (by omega) (dE F l).length 0 true (hs1.set (bs.length + 4) (wkB F V (outV l.length b1) true)) (by omega) (by rw [List.getElem?_set_self (by omega)]) (hV.up (by omega) (by omega) (by omega) fun j hj => (fset _ j (by omega)).trans (hf1' j hj)) (SL.out fun q => ⟨by rw [fset _ _ (by have:=(hb1 q).2; omega)]; exact (hb1 q).1,hb1' q,by have:=(hb1 q).2; omega,by have:=(hb1 q).2; omega⟩) (by rw [List.length_set]; exact Nat.le_refl _)
 have ht : t' = true↔Zfs F (dE F l):=by rw [k2]; simp
 have k3' : ∀ j,j < hs1.length→j≠bs.length + 4→hs3[j]? = hs1[j]?:=fun j a c => (k3 j a c).trans (fset _ j c)
 have p0 : hs3[bs.length]? = some (zB p):=by rw [k3' _ (by omega) (by omega)]; exact q0
 -- the loop
 have x3 : ∀ L j,j < hs3.length→(hs3 ++ L)[j]? = hs3[j]?:=fun L j hj => List.getElem?_append_left hj
 have pm : PM F hs3.length (bs.length + 1) (bs.length + 2) (hs3 ++ [wkB F V (outV l.length b1) t',zB p,⟨[.int .i64 (steps : Int)],false⟩]) V (outV l.length b1) z (decide (l.length≤1)) l (dE F l) t' p steps [] 0 0:=by
  refine ⟨by rw [ga0]; rfl,by rw [ga1]; rfl,by rw [ga2]; rfl,?_,?_,fun q => absurd q (by simp),?_,?_,⟨by omega,by omega,by omega⟩,by rw [List.length_append]; exact Nat.le_refl _⟩
  ·rw [x3 _ _ (by omega),k3' _ (by omega) (by omega)]; exact q1
  ·rw [x3 _ _ (by omega),k3' _ (by omega) (by omega)]; exact q2
  ·exact hV.up (by omega) (by omega) (by omega) fun j hj => by rw [x3 _ _ (by omega),k3' _ (by omega) (by omega)]; exact hf1' j hj
  ·exact SL.out fun q => ⟨by rw [x3 _ _ (by have:=hb1' q; omega),k3' _ (hb1' q) (by have:=(hb1 q).2; omega)]; exact (hb1 q).1,by have:=hb1' q; omega,by have:=(hb1 q).2; omega,by have:=(hb1 q).2; omega⟩
 obtain ⟨b',x',hs',e',fl,pm',fr⟩:=ZxX J hP hO h0 F (fv:=.fn 395 [.ptr hs3.length 0,.ptr (hs3.length + 1) 0,.ptr (hs3.length + 2) 0]) hst hl (by omega) (dE_w F l) ht steps 0 p [] 0 0 _ (by omega) rfl wp fp pm
 rw [List.nil_append] at pm'
 have hR:=Zod (F:=F) (l:=l) (D:=dE F l) steps p
 have hRl : 0 < (paP F l (dE F l) steps p).1.length:=List.length_pos_iff.2 hR.1
 obtain ⟨m1,m2⟩:=pm'.hb (by omega)
 have r1:=pm'.hp
 have r2:=pm'.hq
 have hln:=pm'.len
 have fin : ∀ u v j,j≠bs.length + 1→j≠bs.length + 2→((hs'.set (bs.length + 1) u).set (bs.length + 2) v)[j]? = hs'[j]?:=fun u v j a c => by rw [List.getElem?_set_ne (fun q => c q.symm),List.getElem?_set_ne (fun q => a q.symm)]
 refine ⟨b',(hs'.set (bs.length + 1) ⟨[outV ((paP F l (dE F l) steps p).1.length + 1) b'],false⟩).set (bs.length + 2) ⟨[.int .i64 ((paP F l (dE F l) steps p).2 : Int)],false⟩,?_,fun j hj => ?_,?_,?_⟩
 ·have g1 : ∀ v,(hs'.set (bs.length + 1) v)[bs.length + 2]? = some ⟨[.int .i64 ((paP F l (dE F l) steps p).2 : Int)],false⟩:=fun v => by rw [List.getElem?_set_ne (by omega)]; exact r2
  have g2 : ∀ u v,((hs'.set (bs.length + 1) u).set (bs.length + 2) v)[bs.length + 1]? = some u:=fun u v => by rw [List.getElem?_set_ne (by omega),List.getElem?_set_self (by omega)]
  have g3 : ∀ u v,((hs'.set (bs.length + 1) u).set (bs.length + 2) v)[bs.length + 2]? = some v:=fun u v => by rw [List.getElem?_set_self (by rw [List.length_set]; omega)]
  have n1:=Zsc l.length b1
  have n2:=Zvg l.length b1
  have n3:=Zsc ((paP F l (dE F l) steps p).1.length + 1) b'
  have n4:=Zvg ((paP F l (dE F l) steps p).1.length + 1) b'
  have n5:=(SL.out (F:=F) (hs:=hs1) (l:=l) (b:=b1) (M:=hs1.length) (pc:=bs.length + 4) (qc:=bs.length + 4) fun q => ⟨(hb1 q).1,hb1' q,by have:=(hb1 q).2; omega,by have:=(hb1 q).2; omega⟩).len
  have c1:=ZkJ G T hP.poly_Deriv
  have c2:=ZkJ G T hO.polish_walk_from
  have c3:=ZGs (G:=G) hO.polish_walk_from_1 rfl
  have q5 : ∀ v,(hs1.set (bs.length + 4) v)[bs.length + 4]? = some v:=fun v => by rw [List.getElem?_set_self (by omega)]
  have s100 : ¬ ((steps : Int) > 100):=by omega
  have s0 : ¬ ((steps : Int) < 0):=by omega
  unfold rdX at fl
  clear pm pm' fr hV hf1 hf1' hb1 hb1' k2 k3 k3' fset ex x3 fin m1 m2 hR ht q0 q1 q2 wp fp hl hRl hDl h41 hln k4 hn1
  generalize outV ((paP F l (dE F l) steps p).1.length + 1) b' = o2 at *
  generalize (paP F l (dE F l) steps p).2 = why at *
  generalize outV l.length b1 = W at *
  generalize dE F l = D at *
  generalize evE F p l = E at *
  simp only [zA,zB,wkA,wkB,vlA,cast0] at *
  repeat' (first | simp only [seval,exC,Zca,ZcP,ZbT,numE,Nat.zero_add,gaB,sXB,ZBs,ZGl,c1,c2,c3,ZsM,sv1,okV,caV,e1,ZFT,ZrN,dv,q4,q5,n1,n2,n3,n4,n5,lv,k1,p0,fl,r1,r2,g1,g2,g3,s100,s0] | simp (disch:=omega) only [dxB])
 ·rw [fin _ _ j (by omega) (by omega),fr j (by omega) (by omega) (by omega),x3 _ _ (by omega),k3' _ (by omega) (by omega)]
  exact hf1' j hj
 ·rw [fin _ _ _ (by omega) (by omega)]; exact m1
 ·omega
theorem Zly (J : Al G T g) (hO : HasO g T) (F : Fm) {V : (Nat × Nat) × Nat} (hw : Zw F V.1) (hf : Zf F V.1) (hb : V.2 < 2 * F.sg) (h5 : F.cls V.2≠5) :
  run G T 359 [.int .u8 F.u,vlA V.1 V.2] = some (.bool (@decide (hlP F V) (Classical.propDecidable _))):=by
 rw [Zab G T hO.Zly]
 have z0 : (0 : Nat) < 2 * F.sg:=by cases F <;> decide
 have c1:=ZnB J F hw.1 hw.2 hb z0
 have hd : @decide (hlP F V) (Classical.propDecidable _) = (decide (cmpZ F V.1.1 V.1.2 V.2 0 = 1) || decide (cmpZ F V.1.1 V.1.2 V.2 0 = 2)):=by
  rw [Bool.eq_iff_iff]; simp [ZFX hf h5]
 rw [hd]
 generalize cmpZ F V.1.1 V.1.2 V.2 0 = c at *
 simp only [zA,vlA,cast0] at *
 by_cases h1 : c = 1
 ·subst h1
  repeat' (first | simp only [seval,exC,ZdN,c1] | simp (disch:=omega) only [dxB])
 ·repeat' (first | simp only [seval,exC,ZdN,c1,h1,decide_false,Bool.false_or] | simp (disch:=omega) only [dxB])
def l28 : List (Nat × Nat):=[(13839561654909534208,0),(0,0),(4607182418800017408,0)]
def x28 : Nat × Nat:=(4607182418800017408,0)
def y28 : Nat × Nat:=(4612811918334230528,0)
theorem D28 : dE .d l28 = [(0,0),(4611686018427387904,0)]:=by decide +kernel
theorem ev28x : evE .d x28 l28 = ((13837309855095848960,0),4379750637617807362):=by
 have z1 : zM .d (4607182418800017408,0) (4607182418800017408,0) = (4607182418800017408,0):=by decide +kernel
 have z2 : zP .d (4607182418800017408,0) (0,0) = (4607182418800017408,0):=by decide +kernel
 have z3 : zP .d (4607182418800017408,0) (13839561654909534208,0) = (13837309855095848960,0):=by decide +kernel
 have n1 : uN .d (4607182418800017408,0) = 4607182418800017408:=uN_k (r:=36893488147419103232) (by decide +kernel)
 have n2 : uN .d (13837309855095848960,0) = 4613937818241073152:=uN_k (r:=110680464442257309696) (by decide +kernel)
 have p1 : pE .d x28 l28 = ((13837309855095848960,0),4379750637617807362):=by
  simp only [x28,l28,pE,stE,z1,z2,z3,n1,n2,Prod.mk.injEq,true_and]
  decide +kernel
 unfold evE bdE
 rw [p1,if_neg (by simp [l28]),if_pos (by decide +kernel)]
theorem ev28d : evE .d x28 [(0,0),(4611686018427387904,0)] = ((4611686018427387904,0),4377498837804122113):=by
 have z1 : zM .d (4611686018427387904,0) (4607182418800017408,0) = (4611686018427387904,0):=by decide +kernel
 have z2 : zP .d (4611686018427387904,0) (0,0) = (4611686018427387904,0):=by decide +kernel
 have n1 : uN .d (4607182418800017408,0) = 4607182418800017408:=uN_k (r:=36893488147419103232) (by decide +kernel)
 have n2 : uN .d (4611686018427387904,0) = 4611686018427387904:=uN_k (r:=36893488147419103232) (by decide +kernel)
 have p1 : pE .d x28 [(0,0),(4611686018427387904,0)] = ((4611686018427387904,0),4377498837804122113):=by
  simp only [x28,pE,stE,z1,z2,n1,n2,Prod.mk.injEq,true_and]
  decide +kernel
 unfold evE bdE
 rw [p1,if_neg (by simp),if_pos (by decide +kernel)]
theorem ev28y : evE .d y28 l28 = ((4612248968380809216,0),4387913411942416386):=by
 have z1 : zM .d (4607182418800017408,0) (4612811918334230528,0) = (4612811918334230528,0):=by decide +kernel
 have z2 : zP .d (4612811918334230528,0) (0,0) = (4612811918334230528,0):=by decide +kernel
 have z4 : zM .d (4612811918334230528,0) (4612811918334230528,0) = (4618722892845154304,0):=by decide +kernel
 have z3 : zP .d (4618722892845154304,0) (13839561654909534208,0) = (4612248968380809216,0):=by decide +kernel
 have n1 : uN .d (4612811918334230528,0) = 4612811918334230528:=uN_k (r:=184467440737095516160) (by decide +kernel)
 have n2 : uN .d (4618722892845154304,0) = 4618722892845154304:=uN_k (r:=922337203685477580800) (by decide +kernel)
 have n3 : uN .d (4612248968380809216,0) = 4612248968380809216:=uN_k (r:=332041393326771929088) (by decide +kernel)
 have p1 : pE .d y28 l28 = ((4612248968380809216,0),4387913411942416386):=by
  simp only [y28,l28,pE,stE,z1,z2,z3,z4,n1,n2,n3,Prod.mk.injEq,true_and]
  decide +kernel
 unfold evE bdE
 rw [p1,if_neg (by simp [l28]),if_pos (by decide +kernel)]
theorem pg28 : Pg .d l28:=by
 refine ⟨by decide,?_,?_⟩ <;> intro a ha <;> simp [l28] at ha <;> rcases ha with rfl | rfl | rfl <;> (constructor <;> decide)
theorem on28x : onP .d l28 [(0,0),(4611686018427387904,0)] x28 false = (y28,0):=by
 have hl : lsZ .d ((((13837309855095848960,0),4379750637617807362) : (Nat × Nat) × Nat).2,0) (((13837309855095848960,0),4379750637617807362) : (Nat × Nat) × Nat).1:=by
  show cmpZ .d 4379750637617807362 0 13837309855095848960 0 = 1
  decide +kernel
 unfold onP
 rw [ev28x,if_neg (not_not_intro ⟨by decide +kernel,by decide +kernel⟩),if_neg (not_not_intro hl),if_neg (by decide)]
 have hq : quZ .d (13837309855095848960,0) (4611686018427387904,0) = (13832806255468478464,0):=by decide +kernel
 have hs : shP .d [(0,0),(4611686018427387904,0)] x28 (13837309855095848960,0) = some (13832806255468478464,0):=by
  unfold shP
  have c1 : Zfs .d [(0,0),(4611686018427387904,0)]:=by
   intro a ha
   simp at ha
   rcases ha with rfl | rfl <;> exact ⟨by decide +kernel,by decide +kernel⟩
  have c2 : zcl (Fm.d.cls (((4611686018427387904,0),4377498837804122113) : (Nat × Nat) × Nat).1.1) (Fm.d.cls (((4611686018427387904,0),4377498837804122113) : (Nat × Nat) × Nat).1.2) = 2:=by decide +kernel
  have c3 : Zf .d ((13832806255468478464,0) : Nat × Nat):=⟨by decide +kernel,by decide +kernel⟩
  rw [ev28d,hq,if_pos ⟨⟨c1,c2⟩,c3⟩]
 have hy : yJ .d x28 (13832806255468478464,0) 0 = y28:=by decide +kernel
 unfold stP
 rw [hs]
 simp only
 have ht : tryP .d l28 x28 (13832806255468478464,0) (13837309855095848960,0) 7 0 = some y28:=by
  have c1 : goodY .d l28 (13837309855095848960,0) y28:=by
   refine ⟨⟨by decide +kernel,by decide +kernel⟩,?_,?_⟩
   ·rw [ev28y]; exact ⟨by decide +kernel,by decide +kernel⟩
   ·rw [ev28y]; show cmpZ .d 4612248968380809216 0 13837309855095848960 0 = 1; decide +kernel
  rw [tryP,hy,if_pos c1]
 rw [ht]
theorem on28y : (onP .d l28 [(0,0),(4611686018427387904,0)] y28 true).2 = 4:=by
 have hl : lsZ .d ((((4612248968380809216,0),4387913411942416386) : (Nat × Nat) × Nat).2,0) (((4612248968380809216,0),4387913411942416386) : (Nat × Nat) × Nat).1:=by
  show cmpZ .d 4387913411942416386 0 4612248968380809216 0 = 1
  decide +kernel
 unfold onP
 rw [ev28y,if_neg (not_not_intro ⟨by decide +kernel,by decide +kernel⟩),if_neg (not_not_intro hl),if_pos rfl]
theorem pa28 : paP .d l28 (dE .d l28) 1 x28 = ([x28,y28],4):=by
 rw [D28,paP,on28x,if_pos rfl]
 simp only [paP,on28y]
theorem Zoe (J : Al G T g) (hP : HasK g T) (hO : HasO g T) (h0 : T 0 = none) (F : Fm) {z : Bool} {l : List (Nat × Nat)} {p : Nat × Nat} {steps : Nat} (hl : Pg F l) (wp : Zw F p) (fp : Zf F p) (hst : steps≤100) :
  run G T 354 [.int .u8 F.u,ZL z l,zA p.1 p.2,.int .i64 (steps : Int)] = some (.tup [ZL false (paP F l (dE F l) steps p).1,.int .i64 ((paP F l (dE F l) steps p).2 : Int),.int .i64 0]):=by
 obtain ⟨b',bs',hk,_,hb,_⟩:=ZyG J hP hO h0 F (z:=z) (p:=p) (steps:=steps) (bs:=[]) hl wp fp hst (.inl rfl)
 refine ZyY hO.polish_Polish (h:=⟨bs',[]⟩) (by simpa [numE,Heap.nil] using hk) ?_
 have hn : 0 < (paP F l (dE F l) steps p).1.length:=List.length_pos_iff.2 (Zod steps p).1
 have sg:=sg_Z (d:=2) (ZyM (bs:=bs') (f:=[]) (k:=b') (w:=[]) (by rw [List.append_nil]; exact hb))
 rw [outV,if_neg (by omega),Nat.add_sub_cancel]
 generalize (paP F l (dE F l) steps p).1 = R at *
 generalize (paP F l (dE F l) steps p).2 = w at *
 clear hk hb hn
 simp only [Zzj,ZCB,ZmP,Zwb,ZtK,Zqx,sg,ZfG,Option.map_some]
theorem ZIB (a b c d : AV) (k : IntKind) : iaddrV 2 (.imm 2 [a,b,c,d]) (.int k 1) = some (.iptr [a,b,c,d] 2):=rfl
theorem ZGW (m : Mem) (a b c d : AV) : rdAt G m 2 (.iptr [a,b,c,d] 2) = some [c,d]:=rfl
theorem ZmE (J : Al G T g) (hP : HasK g T) (hO : HasO g T) (h0 : T 0 = none) : run G T 357 [] = some (.bool true):=by
 rw [Zab G T hO.ZmE]
 have f1 : run G T 386 [] = some (ZL false l28):=by
  rw [Zab G T hO.law28_four]
  repeat' (first|simp (maxSteps:=9^7) only [seval,exC,Zig,Zrp,ZyQ]|simp (maxSteps:=9^7) (disch:=first|with_reducible assumption|omega) only [dxB]|(simp only [kdB];split)|(simp only [kvB];split))
  all_goals rfl
 have p1:=Zoe J hP hO h0 .d (z:=false) (steps:=1) (p:=x28) pg28 (by constructor <;> decide) ⟨by decide +kernel,by decide +kernel⟩ (by decide)
 rw [pa28] at p1
 have p2 : run G T 354 [.int .u8 2,.imm 3 [.int .u64 13839561654909534208,.int .u64 0,.int .u64 0,.int .u64 0,.int .u64 4607182418800017408,.int .u64 0],.agg [.int .u64 4607182418800017408,.int .u64 0],.int .i64 1] = some (.tup [.imm 2 [.int .u64 4607182418800017408,.int .u64 0,.int .u64 4612811918334230528,.int .u64 0],.int .i64 4,.int .i64 0]):=p1
 have f2 : run G T 386 [] = some (.imm 3 [.int .u64 13839561654909534208,.int .u64 0,.int .u64 0,.int .u64 0,.int .u64 4607182418800017408,.int .u64 0]):=f1
 clear p1 f1
 repeat' (first|simp (maxSteps:=9^7) only [seval,exC,ZgT,f2,p2,ZIB,ZGW,ZkP,ZHV ]|simp (maxSteps:=9^7) (disch:=first|with_reducible assumption|omega) only [dxB,decide]|(simp only [kdB];split)|(simp only [kvB];split))
theorem ZCb (F : Fm) (p : Nat × Nat) : @decide (F.fin p.1∧F.fin p.2) instDecidableAnd = @decide (Zf F p) (Classical.propDecidable _):=decide_eq_decide.2 Iff.rfl
theorem ZvV (e : Env) (h : Heap) : evL G T ZeC e h = kS G T (evL G T ZeB (keepE [0,1,5] e) h) ZeC:=Zae G T rfl e h
theorem Zlf {z y : Bool} {l : List (Nat × Nat)} {h : Heap} (hl : l.length≤4611686018427387904) : ∀ (m i : Nat),i + m = l.length →
  evL G T ZeC [(0,ZL z l),(1,ZL y l),(5,.int .i64 (i : Int))] h =
   some (.exit 0,[(0,ZL z l),(1,ZL y l),(5,.int .i64 (l.length : Int)),(14,.bool false)],h)
 | 0,i,hi => by
  have he : i = l.length:=by omega
  subst he
  have hn : ¬ (l.length : Int) < (l.length : Int):=by omega
  rw [ZvV]
  repeat' (first | simp only [seval,exC,ZeB,ZB,hn] | simp (disch:=omega) only [dxB])
 | m + 1,i,hi => by
  have hil : i < l.length:=by omega
  have hlt : (i : Int) < (l.length : Int):=by omega
  have t1 : ((i : Int)).toNat = i:=Int.toNat_natCast i
  have w1 : IntKind.i64.wrap ((i : Int) + 1) = ((i + 1 : Nat) : Int):=by rw [Zac (by omega)]; rfl
  have ia:=Zfi (z:=z) (l:=l) (k:=.i64) (j:=(i : Int)) ⟨by omega,by omega⟩
  rw [t1] at ia
  have ib:=Zfi (z:=y) (l:=l) (k:=.i64) (j:=(i : Int)) ⟨by omega,by omega⟩
  rw [t1] at ib
  have rd:=fun mm => rd_Z (G:=G) mm hil
  rw [← Zlf hl m (i + 1) (by omega)]
  rw [ZvV]
  repeat' (first | simp only [seval,exC,ZeB,hlt,ia,ib,rd,ZB,w1,ZkP,Zib,and_self,decide_true,Bool.not_true] | simp (disch:=omega) only [dxB])
theorem Zoa (hO : HasO g T) {z y : Bool} {l : List (Nat × Nat)} (hl : l.length≤4611686018427387904) : run G T 356 [ZL z l,ZL y l] = some (.bool true):=by
 rw [Zab G T hO.Zoa]
 have lp:=Zlf (G:=G) (T:=T) (z:=z) (y:=y) (l:=l) (h:=Heap.nil) hl l.length 0 (by omega)
 simp only [cast0] at lp
 repeat' (first | simp only [seval,exC,Zih,ZB,lp] | simp (disch:=omega) only [dxB])
theorem ZpQ (hO : HasO g T) {f e st : Int} {z : Bool} {l : List (Nat × Nat)} {a b : Nat} (he : e≠0) (o : run G T 344 [.int .u8 f,ZL z l,zA a b] = some (.int .i64 e)) : run G T 355 [.int .u8 f,ZL z l,zA a b,.int .i64 st] = some (.int .i64 e):=by
 rw [Zab G T hO.law28_opens]
 simp only [zA] at *
 repeat' (first | simp only [seval,exC,Zcp,ZB,o,he] | simp (disch:=omega) only [dxB])
theorem ZqO (hO : HasO g T) {f st : Int} {z : Bool} {l : List (Nat × Nat)} {a b : Nat} (hs : st < 0∨100 < st) (o : run G T 344 [.int .u8 f,ZL z l,zA a b] = some (.int .i64 0)) : run G T 355 [.int .u8 f,ZL z l,zA a b,.int .i64 st] = some (.int .i64 2):=by
 rw [Zab G T hO.law28_opens]
 simp only [zA] at *
 by_cases h1 : st < 0
 ·repeat' (first | simp only [seval,exC,Zcp,ZB,o,h1] | simp (disch:=omega) only [dxB])
 ·have h2 : st > 100:=by omega
  repeat' (first | simp only [seval,exC,Zcp,ZB,o,h1,h2] | simp (disch:=omega) only [dxB])
theorem ZqN (hO : HasO g T) {f st : Int} {z : Bool} {l : List (Nat × Nat)} {a b : Nat} (h1 : ¬ st < 0) (h2 : ¬ st > 100) (o : run G T 344 [.int .u8 f,ZL z l,zA a b] = some (.int .i64 0)) : run G T 355 [.int .u8 f,ZL z l,zA a b,.int .i64 st] = some (.int .i64 0):=by
 rw [Zab G T hO.law28_opens]
 simp only [zA] at *
 repeat' (first | simp only [seval,exC,Zcp,ZB,o,h1,h2] | simp (disch:=omega) only [dxB])
theorem ZL_f (l : List (Nat × Nat)) : ZL false l = .imm l.length (zcells l):=by unfold ZL; rw [if_neg (by simp)]
theorem Zua : ∀ (l : List (Nat × Nat)) (n : Nat),(zcells l).take (n * 2) = zcells (l.take n)
 | l,0 => by simp [zcells]
 | [],n + 1 => by simp [zcells]
 | p :: l,n + 1 => by
  rw [zcells,List.take_succ_cons,zcells,← Zua l n,show (n + 1) * 2 = n * 2 + 1 + 1 by omega,List.take_succ_cons,List.take_succ_cons]
theorem ZBw (m : Mem) {l : List (Nat × Nat)} {n : Nat} (h : n≤l.length) : evSlice m 2 (ZL false l) none (some (.int .i64 (n : Int))) = some (ZL false (l.take n)):=by
 rw [ZL_f,ZL_f]
 simp only [evSlice,lenA,capA,bound]
 rw [if_pos ⟨by omega,by omega,by omega⟩,if_pos (ZbG l)]
 show some (AV.imm ((n : Int) - 0).toNat (((zcells l).drop (0 * 2)).take (((n : Int) - 0).toNat * 2))) = _
 rw [Int.sub_zero,Int.toNat_natCast,Nat.zero_mul,List.drop_zero,Zua,List.length_take,Nat.min_eq_left h]
theorem Zts (e : Env) (h : Heap) : evL G T Zbz e h = kS G T (evL G T Zby (keepE [0,1,3,9,10,12,13,15] e) h) Zbz:=Zae G T rfl e h
set_option maxHeartbeats 8000000 in
theorem Zrc (J : Al G T g) (hP : HasK g T) (F : Fm) {z : Bool} {l P : List (Nat × Nat)} {X3 X10 X12 X13 : AV} {h : Heap} (hl : Pg F l) (hn : P.length≤1000) (hw : ∀ i,i < P.length→Zw F (zc P i)∧Zf F (zc P i)) (hf : ∀ i,i + 1 < P.length→lsZ F (evE F (zc P (i + 1)) l).1 (evE F (zc P i) l).1) : ∀ (m i : Nat),1≤i→i + m = P.length →
  evL G T Zbz [(0,.int .u8 F.u),(1,ZL z l),(3,X3),(9,ZL false P),(10,X10),(12,X12),(13,X13),(15,.int .i64 (i : Int))] h =
   some (.exit 0,[(0,.int .u8 F.u),(1,ZL z l),(3,X3),(9,ZL false P),(10,X10),(12,X12),(13,X13),(15,.int .i64 (P.length : Int)),(88,.bool false)],h)
 | 0,i,h1,hi => by
  have he : i = P.length:=by omega
  subst he
  have hlt : ¬ (P.length : Int) < (P.length : Int):=by omega
  rw [Zts]
  repeat' (first | simp only [seval,exC,Zby,ZB,hlt] | simp (disch:=omega) only [dxB])
 | m + 1,i,h1,hi => by
  have hil : i < P.length:=by omega
  have hil1 : i - 1 < P.length:=by omega
  have hlt : (i : Int) < (P.length : Int):=by omega
  have w1 : IntKind.i64.wrap ((i : Int) + 1) = ((i + 1 : Nat) : Int):=by rw [Zac (by omega)]; rfl
  have w2 : IntKind.i64.wrap ((i : Int) - 1) = ((i - 1 : Nat) : Int):=by rw [Zac (by omega)]; omega
  obtain ⟨wx,fx⟩:=hw i hil
  obtain ⟨wy,fy⟩:=hw (i - 1) hil1
  have hls:=hf (i - 1) (by omega)
  rw [show i - 1 + 1 = i by omega] at hls
  have n1:=Zbo J F wx.1 wx.2
  rw [ZCb,@decide_eq_true _ (Classical.propDecidable _) fx] at n1
  have e1:=ZjF J hP F (z:=z) (a:=(zc P i).1) (b:=(zc P i).2) hl.len hl.w wx
  rw [show (((zc P i).1,(zc P i).2) : Nat × Nat) = zc P i from rfl] at e1
  have e2:=ZjF J hP F (z:=z) (a:=(zc P (i - 1)).1) (b:=(zc P (i - 1)).2) hl.len hl.w wy
  rw [show (((zc P (i - 1)).1,(zc P (i - 1)).2) : Nat × Nat) = zc P (i - 1) from rfl] at e2
  have wu:=ZwI (zc P i) hl.w
  have wv:=ZwI (zc P (i - 1)) hl.w
  have k1:=ZnB J F wu.1 wu.2 wv.1 wv.2
  rw [show cmpZ F (evE F (zc P i) l).1.1 (evE F (zc P i) l).1.2 (evE F (zc P (i - 1)) l).1.1 (evE F (zc P (i - 1)) l).1.2 = 1 from hls] at k1
  have ia:=Zfi (z:=false) (l:=P) (k:=.i64) (j:=(i : Int)) ⟨by omega,by omega⟩
  rw [Int.toNat_natCast] at ia
  have ib:=Zfi (z:=false) (l:=P) (k:=.i64) (j:=((i - 1 : Nat) : Int)) ⟨by omega,by omega⟩
  rw [Int.toNat_natCast] at ib
  have ra:=fun mm => rd_Z (G:=G) mm hil
  have rb:=fun mm => rd_Z (G:=G) mm hil1
  rw [← Zrc J hP F hl hn hw hf m (i + 1) (by omega) (by omega)]
  rw [Zts]
  clear hls wu wv wx wy fx fy hw hf
  generalize evE F (zc P i) l = V1 at *
  generalize evE F (zc P (i - 1)) l = V2 at *
  generalize zc P i = x1 at *
  generalize zc P (i - 1) = x2 at *
  simp only [zA,vlA] at *
  repeat' (first | simp only [seval,exC,Zby,hlt,ia,ib,ra,rb,n1,e1,e2,k1,ZAu,ZB,w1,w2] | simp (disch:=omega) only [dxB])
set_option maxHeartbeats 64000000 in
theorem Zjw (J : Al G T g) (hP : HasK g T) (hO : HasO g T) (h0 : T 0 = none) {f st : Int} {z : Bool} {l : List (Nat × Nat)} {a b : Nat} (h64 : W64 l) (ha : a < 18446744073709551616) (hb : b < 18446744073709551616) :
  run G T 327 [.int .u8 f,ZL z l,.agg [.int .u64 (a : Int),.int .u64 (b : Int)],.int .i64 st] = some (.bool true):=by
 rw [Zab G T hO.Zjw]
 have hK:=ZmE J hP hO h0
 rcases zasked J hP (f:=f) (z:=z) (l:=l) h64 ha hb with ⟨e,he,o⟩ | ⟨F,rfl,o1,oc,hl,hw,hp,hf,fp⟩
 ·have o1:=ZpQ hO (st:=st) he (o z).1
  simp only [zA,zB,cast0] at *
  repeat' (first | simp only [seval,exC,Zag,ZB,o1,he,hK] | simp (disch:=omega) only [dxB])
 ·have hg : Pg F l:=⟨hl,hw,hf⟩
  by_cases hs : st < 0∨100 < st
  ·have o2:=ZqO hO hs (o1 z)
   simp only [zA,zB,cast0] at *
   repeat' (first | simp only [seval,exC,Zag,ZB,o2,hK] | simp (disch:=omega) only [dxB])
  ·obtain ⟨n,rfl⟩ : ∃ n : Nat,st = (n : Int):=⟨st.toNat,by omega⟩
   have o2:=ZqN hO (st:=(n : Int)) (by omega) (by omega) (o1 z)
   have p1:=Zoe J hP hO h0 F (z:=z) (p:=(a,b)) (steps:=n) hg hp fp (by omega)
   have p2:=Zoe J hP hO h0 F (z:=z) (p:=(a,b)) (steps:=n / 2) hg hp fp (by omega)
   have w2 : IntKind.i64.wrap ((n : Int).tdiv 2) = ((n / 2 : Nat) : Int):=by
    rw [show (n : Int).tdiv 2 = ((n / 2 : Nat) : Int) from rfl,Zac (by omega)]
   have w1 : IntKind.i64.wrap ((n : Int) + 1) = ((n + 1 : Nat) : Int):=by rw [Zac (by omega)]; rfl
   obtain ⟨hne,hle,hz0⟩:=Zod (F:=F) (l:=l) (D:=dE F l) n (a,b)
   have hn : 0 < (paP F l (dE F l) n (a,b)).1.length:=List.length_pos_iff.2 hne
   obtain ⟨y1,y2,y3,y4⟩:=ZyF (F:=F) (l:=l) (D:=dE F l) n (a,b)
   have hall:=ZyD (F:=F) (l:=l) (D:=dE F l) n (a,b) hp fp
   have hfa:=Ztp (F:=F) (l:=l) (D:=dE F l) n (a,b)
   obtain ⟨r,hr1,hr2⟩:=ZyE (F:=F) (l:=l) (D:=dE F l) (n / 2) n (a,b) (by omega)
   generalize (paP F l (dE F l) n (a,b)).2 = w at *
   generalize (paP F l (dE F l) (n / 2) (a,b)).2 = v at *
   generalize (paP F l (dE F l) n (a,b)).1 = P at *
   generalize (paP F l (dE F l) (n / 2) (a,b)).1 = Q at *
   have hQ : Q.length≤P.length:=by rw [hr1,List.length_append]; omega
   have hPQ : P.take Q.length = Q:=by rw [hr1]; simp
   have sl:=fun m => ZBw m hQ
   rw [hPQ] at sl
   have sm:=Zoa (G:=G) hO (z:=false) (y:=false) (l:=Q) (by omega)
   have lp:=Zrc J hP F (z:=z) (X3:=.int .i64 (n : Int)) (X10:=.int .i64 (w : Int)) (X12:=ZL false Q) (X13:=.int .i64 (v : Int)) (h:=⟨[zB (a,b)],[]⟩) hg (by omega) hall hfa (P.length - 1) 1 (by omega) (by omega)
   rw [show (((1 : Nat)) : Int) = 1 from rfl] at lp
   have c1 : ¬ (P.length : Int) = 0:=by omega
   have c2 : ¬ (P.length : Int) > ((n + 1 : Nat) : Int):=by omega
   have c3 : ¬ (Q.length : Int) > (P.length : Int):=by omega
   have ia:=Zfi (z:=false) (l:=P) (k:=.i64) (j:=0) ⟨by omega,by simpa using hn⟩
   rw [show ((0 : Int)).toNat = 0 from rfl,Nat.zero_mul] at ia
   have ra:=fun mm => rd_Z (G:=G) mm hn
   rw [Nat.zero_mul,hz0] at ra
   have w3 : IntKind.i64.wrap ((P.length : Int) - 1) = ((P.length - 1 : Nat) : Int):=by rw [Zac (by omega)]; omega
   have ib:=Zfi (z:=false) (l:=P) (k:=.i64) (j:=((P.length - 1 : Nat) : Int)) ⟨by omega,by omega⟩
   rw [Int.toNat_natCast] at ib
   have hil : P.length - 1 < P.length:=by omega
   have rb:=fun mm => rd_Z (G:=G) mm hil
   obtain ⟨wx,fx⟩:=hall _ hil
   have e1:=ZjF J hP F (z:=z) (a:=(zc P (P.length - 1)).1) (b:=(zc P (P.length - 1)).2) hl hw wx
   rw [show (((zc P (P.length - 1)).1,(zc P (P.length - 1)).2) : Nat × Nat) = zc P (P.length - 1) from rfl] at e1
   have wu:=ZwI (zc P (P.length - 1)) hw
   have bu:=ZFP (zc P (P.length - 1)) hw
   have n1:=Zbo J F wu.1 wu.2
   rw [ZCb] at n1
   have b5:=ZFq F (zc P (P.length - 1)) l
   have c4 : (w : Int) ≥ 1:=by omega
   have c5 : (w : Int)≤4:=by omega
   have c6 : (w : Int) = 4→¬ ¬ (P.length : Int) = ((n + 1 : Nat) : Int):=fun q => by have:=y3 (by omega); omega
   have c7 : ¬ (v : Int) = 4→(v : Int) = (w : Int)∧(Q.length : Int) = (P.length : Int):=fun q => by
    obtain ⟨q1,q2⟩:=hr2 (by omega)
    have : P.length = Q.length:=by rw [hr1,q1,List.append_nil]
    exact ⟨by omega,by omega⟩
   have hh : (w : Int) = 1↔hlP F (evE F (zc P (P.length - 1)) l):=by rw [← y4]; omega
   clear hall hfa hr1 hr2 hPQ y1 y2 y3 y4 hz0 o1 oc hg hp fp hne
   have held : ∃ t : Bool,(t = true↔(w : Int) = 1)∧((run G T 250 [.int .u8 F.u,zA (evE F (zc P (P.length - 1)) l).1.1 (evE F (zc P (P.length - 1)) l).1.2] = some (.bool false)∧t = false)∨(run G T 250 [.int .u8 F.u,zA (evE F (zc P (P.length - 1)) l).1.1 (evE F (zc P (P.length - 1)) l).1.2] = some (.bool true)∧run G T 359 [.int .u8 F.u,vlA (evE F (zc P (P.length - 1)) l).1 (evE F (zc P (P.length - 1)) l).2] = some (.bool t))):=by
    by_cases h1 : Zf F (evE F (zc P (P.length - 1)) l).1
    ·have k1:=Zly J hO F wu h1 bu b5
     rw [@decide_eq_true _ (Classical.propDecidable _) h1] at n1
     exact ⟨_,by rw [hh]; simp,.inr ⟨n1,k1⟩⟩
    ·rw [@decide_eq_false _ (Classical.propDecidable _) h1] at n1
     exact ⟨false,by rw [hh]; simp only [Bool.false_eq_true,false_iff]; exact fun q => h1 q.1,.inl ⟨n1,rfl⟩⟩
   clear n1 hh wu bu b5
   obtain ⟨t,ht,hd⟩:=held
   generalize evE F (zc P (P.length - 1)) l = V at *
   generalize zc P (P.length - 1) = x1 at *
   clear wx fx hil hw hf hl hs hle hn hQ
   simp only [zA,zB,vlA,cast0] at *
   rcases hd with ⟨n1,rfl⟩ | ⟨n1,k1⟩
   ·
    have h1 : ¬ (w : Int) = 1:=fun q => by simpa using ht.2 q
    by_cases h4 : (w : Int) = 4
    ·have h4':=eq_true h4
     have c8:=eq_true (Classical.not_not.1 (c6 h4))
     clear h4
     by_cases hv : (v : Int) = 4
     ·have hv':=eq_true hv
      clear c6 c7 ht hv
      repeat' (first | simp only [seval,exC,Zag,ZB,o2,p1,p2,w1,w2,w3,c1,c2,c3,c4,c5,ia,ra,ib,rb,sl,sm,lp,e1,n1,h1,h4',c8,hv',ZkP,Zib,and_self,decide_true,Bool.not_true,hK] | simp (disch:=omega) only [dxB])
     ·obtain ⟨u1,u2⟩:=c7 hv
      have u1':=eq_true u1
      have u2':=eq_true u2
      clear c6 c7 ht u1 u2
      repeat' (first | simp only [seval,exC,Zag,ZB,o2,p1,p2,w1,w2,w3,c1,c2,c3,c4,c5,ia,ra,ib,rb,sl,sm,lp,e1,n1,h1,h4',c8,hv,u1',u2',ZkP,Zib,and_self,decide_true,Bool.not_true,hK] | simp (disch:=omega) only [dxB])
    ·
     by_cases hv : (v : Int) = 4
     ·have hv':=eq_true hv
      clear c6 c7 ht hv
      repeat' (first | simp only [seval,exC,Zag,ZB,o2,p1,p2,w1,w2,w3,c1,c2,c3,c4,c5,ia,ra,ib,rb,sl,sm,lp,e1,n1,h1,h4,hv',ZkP,Zib,and_self,decide_true,Bool.not_true,hK] | simp (disch:=omega) only [dxB])
     ·obtain ⟨u1,u2⟩:=c7 hv
      have u1':=eq_true u1
      have u2':=eq_true u2
      clear c6 c7 ht u1 u2
      repeat' (first | simp only [seval,exC,Zag,ZB,o2,p1,p2,w1,w2,w3,c1,c2,c3,c4,c5,ia,ra,ib,rb,sl,sm,lp,e1,n1,h1,h4,hv,u1',u2',ZkP,Zib,and_self,decide_true,Bool.not_true,hK] | simp (disch:=omega) only [dxB])
   ·cases t
    ·
     have h1 : ¬ (w : Int) = 1:=fun q => by simpa using ht.2 q
     by_cases h4 : (w : Int) = 4
     ·have h4':=eq_true h4
      have c8:=eq_true (Classical.not_not.1 (c6 h4))
      clear h4
      by_cases hv : (v : Int) = 4
      ·have hv':=eq_true hv
       clear c6 c7 ht hv
       repeat' (first | simp only [seval,exC,Zag,ZB,o2,p1,p2,w1,w2,w3,c1,c2,c3,c4,c5,ia,ra,ib,rb,sl,sm,lp,e1,n1,k1,h1,h4',c8,hv',ZkP,Zib,and_self,decide_true,Bool.not_true,hK] | simp (disch:=omega) only [dxB])
      ·obtain ⟨u1,u2⟩:=c7 hv
       have u1':=eq_true u1
       have u2':=eq_true u2
       clear c6 c7 ht u1 u2
       repeat' (first | simp only [seval,exC,Zag,ZB,o2,p1,p2,w1,w2,w3,c1,c2,c3,c4,c5,ia,ra,ib,rb,sl,sm,lp,e1,n1,k1,h1,h4',c8,hv,u1',u2',ZkP,Zib,and_self,decide_true,Bool.not_true,hK] | simp (disch:=omega) only [dxB])
     ·
      by_cases hv : (v : Int) = 4
      ·have hv':=eq_true hv
       clear c6 c7 ht hv
       repeat' (first | simp only [seval,exC,Zag,ZB,o2,p1,p2,w1,w2,w3,c1,c2,c3,c4,c5,ia,ra,ib,rb,sl,sm,lp,e1,n1,k1,h1,h4,hv',ZkP,Zib,and_self,decide_true,Bool.not_true,hK] | simp (disch:=omega) only [dxB])
      ·obtain ⟨u1,u2⟩:=c7 hv
       have u1':=eq_true u1
       have u2':=eq_true u2
       clear c6 c7 ht u1 u2
       repeat' (first | simp only [seval,exC,Zag,ZB,o2,p1,p2,w1,w2,w3,c1,c2,c3,c4,c5,ia,ra,ib,rb,sl,sm,lp,e1,n1,k1,h1,h4,hv,u1',u2',ZkP,Zib,and_self,decide_true,Bool.not_true,hK] | simp (disch:=omega) only [dxB])
    ·have h1 : (w : Int) = 1:=ht.1 rfl
     have h4 : ¬ (w : Int) = 4:=by omega
     have h1':=eq_true h1
     clear h1
     by_cases hv : (v : Int) = 4
     ·have hv':=eq_true hv
      clear c6 c7 ht hv
      repeat' (first | simp only [seval,exC,Zag,ZB,o2,p1,p2,w1,w2,w3,c1,c2,c3,c4,c5,ia,ra,ib,rb,sl,sm,lp,e1,n1,k1,h1',h4,hv',ZkP,Zib,and_self,decide_true,Bool.not_true,hK] | simp (disch:=omega) only [dxB])
     ·obtain ⟨u1,u2⟩:=c7 hv
      have u1':=eq_true u1
      have u2':=eq_true u2
      clear c6 c7 ht u1 u2
      repeat' (first | simp only [seval,exC,Zag,ZB,o2,p1,p2,w1,w2,w3,c1,c2,c3,c4,c5,ia,ra,ib,rb,sl,sm,lp,e1,n1,k1,h1',h4,hv,u1',u2',ZkP,Zib,and_self,decide_true,Bool.not_true,hK] | simp (disch:=omega) only [dxB])
end Go.Cv
