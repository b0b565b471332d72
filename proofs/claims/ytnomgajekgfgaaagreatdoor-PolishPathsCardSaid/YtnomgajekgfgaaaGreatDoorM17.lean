/-
 A part of the proof of the statements of this seat (texts that the law's own text leans on): no condition.
-/
import Derived.Test.YtnomgajekgfgaaaGreatDoorM16
import Derived.Test.YtnomgajekgfgaaaGreatDoorM7
set_option linter.unusedVariables false
set_option linter.unusedSimpArgs false
set_option linter.defProp false
namespace Go.Cv
variable {G : Nat→Option (List AV)} {T : Tbl} {g : Nat}
def wkA (F : Fm) (V W : AV) (b : Bool) : AV:=.agg [.int .u8 F.u,V,W,.bool b]
def wkB (F : Fm) (V W : AV) (b : Bool) : Blk:=⟨[.int .u8 F.u,V,W,.bool b],false⟩
theorem ZlQ (J : Al G T g) (hO : HasO g T) (F : Fm) {z y t : Bool} {l D : List (Nat × Nat)} {p : Nat × Nat} (hp : Zw F p) :
  run G T 384 [wkA F (ZL z l) (ZL y D) t,zA p.1 p.2] = some (.bool (@decide (Zf F p) (Classical.propDecidable _))):=by
 rw [Zab G T hO.polish_walk_finite]
 have c1:=ZbN J F hp.1 hp.2
 have hd : @decide (Zf F p) (Classical.propDecidable _) = decide (zcl (F.cls p.1) (F.cls p.2)≤2):=decide_eq_decide.2 (Zer F)
 rw [hd]
 generalize zcl (F.cls p.1) (F.cls p.2) = c at *
 simp only [zA,wkA] at *
 repeat' (first | simp only [seval,exC,Zcb,ZB,c1] | simp (disch:=omega) only [dxB])
theorem Zuu (J : Al G T g) (hO : HasO g T) (F : Fm) {z y t : Bool} {l D : List (Nat × Nat)} {p q : Nat × Nat} (hp : Zw F p) (hq : Zw F q) :
  run G T 402 [wkA F (ZL z l) (ZL y D) t,zA p.1 p.2,zA q.1 q.2] = some (.bool (@decide (lsZ F p q) (Classical.propDecidable _))):=by
 rw [Zab G T hO.polish_walk_nearer]
 have c1:=Znn J F hp.1 hp.2 hq.1 hq.2
 have hd : @decide (lsZ F p q) (Classical.propDecidable _) = decide (cmpZ F p.1 p.2 q.1 q.2 = 1):=decide_eq_decide.2 Iff.rfl
 rw [hd]
 generalize cmpZ F p.1 p.2 q.1 q.2 = c at *
 simp only [zA,wkA] at *
 repeat' (first | simp only [seval,exC,Zcd,ZB,c1] | simp (disch:=omega) only [dxB])
structure Pg (F : Fm) (l : List (Nat × Nat)) : Prop where
 len : ¬ 41 < l.length
 w : Zws F l
 f : Zfs F l
theorem Pg.w64 {F : Fm} {l : List (Nat × Nat)} (h : Zws F l) : W64 l:=fun a ha => ⟨ZaP (h a ha).1,ZaP (h a ha).2⟩
theorem ZHV (J : Al G T g) (hP : HasK g T) (hO : HasO g T) (F : Fm) {z y t : Bool} {l D : List (Nat × Nat)} {p : Nat × Nat} (hl : Pg F l) (hp : Zw F p) (hf : Zf F p) :
  run G T 401 [wkA F (ZL z l) (ZL y D) t,zA p.1 p.2] = some (vlA (evE F p l).1 (evE F p l).2):=by
 rw [Zab G T hO.polish_walk_at]
 have c1:=Ziq J hP F (z:=z) (Pg.w64 hl.w) (ZaP hp.1) (ZaP hp.2) (ZnZ hl.len ⟨hl.w,hp⟩ ⟨hl.f,hf⟩) hl.len hl.w hp
 rw [show ((p.1,p.2) : Nat × Nat) = p from rfl] at c1
 generalize evE F p l = v at *
 simp only [zA,wkA,vlA] at *
 repeat' (first | simp only [seval,exC,Zei,ZB,c1] | simp (disch:=omega) only [dxB])
theorem ZFs (J : Al G T g) (hP : HasK g T) (hO : HasO g T) (F : Fm) {z y t : Bool} {l D : List (Nat × Nat)} {s : Nat × Nat} (hs : Zw F s) {j : Nat} (hj : j≤6) :
  run G T 406 [wkA F (ZL z l) (ZL y D) t,zA s.1 s.2,.int .i64 (j : Int)] = some (zA (haZ F s j).1 (haZ F s j).2):=by
 rw [Zab G T hO.polish_walk_part]
 have c1:=ZjT J hP F (md:=1) (by decide) hs.1 (n := -(j : Int)) (by omega)
 have c2:=ZjT J hP F (md:=1) (by decide) hs.2 (n := -(j : Int)) (by omega)
 have w1 : IntKind.i64.wrap (0 - (j : Int)) = -(j : Int):=by rw [Zac (by omega)]; omega
 unfold haZ
 generalize scaW F 1 s.1 (-(j : Int)) = a at *
 generalize scaW F 1 s.2 (-(j : Int)) = b at *
 simp only [zA,wkA] at *
 repeat' (first | simp only [seval,exC,ZcY,ZB,c1,c2,w1] | simp (disch:=omega) only [dxB])
theorem ZtS {F : Fm} (p : Nat × Nat) {l : List (Nat × Nat)} (hw : Zws F l) : Zw F (evE F p l).1:=by
 unfold evE
 split
 ·exact ⟨by cases F <;> decide,by cases F <;> decide⟩
 ·exact (pE_w F p l hw).1
theorem ZEu {F : Fm} (p : Nat × Nat) {l : List (Nat × Nat)} (hw : Zws F l) : (evE F p l).2 < 2 * F.sg:=by
 unfold evE
 split
 ·cases F <;> decide
 ·simp only
  unfold bdE
  split
  ·exact (pE_w F p l hw).2
  ·exact ZlE F _
theorem ZHa {F : Fm} {s : Nat × Nat} (hs : Zw F s) (j : Nat) : Zw F (haZ F s j):=⟨Ztg F (by decide) hs.1 _,Ztg F (by decide) hs.2 _⟩
theorem ZyF (F : Fm) (v d : Nat × Nat) : divZ F 1 v.1 v.2 d.1 d.2 = (((quZ F v d).1,(divZ F 1 v.1 v.2 d.1 d.2).1.2),((quZ F v d).2,(divZ F 1 v.1 v.2 d.1 d.2).2.2)):=rfl
theorem ZCe (J : Al G T g) (hP : HasK g T) (hO : HasO g T) (F : Fm) {z y t : Bool} {l D : List (Nat × Nat)} {x v : Nat × Nat} (hD : ¬ 41 < D.length) (wD : Zws F D) (ht : t = true↔Zfs F D) (wx : Zw F x) (fx : Zf F x) (wv : Zw F v) (fv : Zf F v) :
  (shP F D x v = none∧∃ q : Nat × Nat,run G T 405 [wkA F (ZL z l) (ZL y D) t,zA x.1 x.2,zA v.1 v.2] = some (.tup [zA q.1 q.2,.bool false])) ∨
  (∃ s,shP F D x v = some s∧Zw F s∧Zf F s∧run G T 405 [wkA F (ZL z l) (ZL y D) t,zA x.1 x.2,zA v.1 v.2] = some (.tup [zA s.1 s.2,.bool true])):=by
 rw [Zab G T hO.polish_walk_shift]
 by_cases h1 : t = true
 ·have fD:=ht.1 h1
  subst h1
  have e1:=Ziq J hP F (z:=y) (Pg.w64 wD) (ZaP wx.1) (ZaP wx.2) (ZnZ hD ⟨wD,wx⟩ ⟨fD,fx⟩) hD wD wx
  rw [show ((x.1,x.2) : Nat × Nat) = x from rfl] at e1
  have wd:=ZtS x wD
  have c1:=ZbN J F wd.1 wd.2
  unfold shP
  by_cases h2 : zcl (F.cls (evE F x D).1.1) (F.cls (evE F x D).1.2) = 2
  ·have wq:=ZHX fv wd h2
   have d1:=Zqu J F (md:=1) (by decide) wv.1 wv.2 wd.1 wd.2
   rw [ZyF F v (evE F x D).1] at d1
   have n1:=fun t => ZlQ J hO F (z:=z) (y:=y) (t:=t) (l:=l) (D:=D) wq
   rw [h2] at c1
   generalize (divZ F 1 v.1 v.2 (evE F x D).1.1 (evE F x D).1.2).1.2 = g1 at *
   generalize (divZ F 1 v.1 v.2 (evE F x D).1.1 (evE F x D).1.2).2.2 = g2 at *
   generalize quZ F v (evE F x D).1 = q at *
   by_cases h3 : Zf F q
   ·refine .inr ⟨q,by rw [if_pos ⟨⟨fD,h2⟩,h3⟩],wq,h3,?_⟩
    rw [@decide_eq_true _ (Classical.propDecidable _) h3] at n1
    clear wd h2
    generalize evE F x D = V at *
    simp only [zA,zrA,wkA,vlA] at *
    repeat' (first | simp only [seval,exC,ZaH,ZB,e1,c1,d1,n1] | simp (disch:=omega) only [dxB])
   ·refine .inl ⟨by rw [if_neg (fun r => h3 r.2)],q,?_⟩
    rw [@decide_eq_false _ (Classical.propDecidable _) h3] at n1
    clear wd h2
    generalize evE F x D = V at *
    simp only [zA,zrA,wkA,vlA] at *
    repeat' (first | simp only [seval,exC,ZaH,ZB,e1,c1,d1,n1] | simp (disch:=omega) only [dxB])
  ·refine .inl ⟨by rw [if_neg (fun r => h2 r.1.2)],(0,0),?_⟩
   have h2' : ¬ zcl (F.cls (evE F x D).1.1) (F.cls (evE F x D).1.2) = 2:=h2
   generalize zcl (F.cls (evE F x D).1.1) (F.cls (evE F x D).1.2) = c at *
   clear wd
   generalize evE F x D = V at *
   simp only [zA,zrA,wkA,vlA,cast0] at *
   repeat' (first | simp only [seval,exC,ZaH,ZB,e1,c1,h2'] | simp (disch:=omega) only [dxB])
 ·have fD : ¬ Zfs F D:=fun q => h1 (ht.2 q)
  have h1' : t = false:=by simpa using h1
  subst h1'
  refine .inl ⟨by unfold shP; rw [if_neg (fun r => fD r.1.1)],(0,0),?_⟩
  simp only [zA,wkA,cast0] at *
  repeat' (first | simp only [seval,exC,ZaH,ZB] | simp (disch:=omega) only [dxB])
theorem Zsy (x y z : AV) : fieldA true 0 2 (.agg [x,y,z]) = some (.agg [x,y]):=rfl
theorem Zro (e : Env) (h : Heap) : evL G T Zah e h = kS G T (evL G T Zax (keepE [3,4,5,6,8,24] e) h) Zah:=Zae G T rfl e h
set_option maxHeartbeats 16000000 in
theorem Zjg (J : Al G T g) (hP : HasK g T) (hO : HasO g T) (F : Fm) {z y t : Bool} {l D : List (Nat × Nat)} {x s v q : Nat × Nat} (hl : Pg F l) (wx : Zw F x) (ws : Zw F s) (wv : Zw F v) : ∀ (m j : Nat) (bs : List Blk),j + m = 7 →
  (∃ r bs',tryP F l x s v m j = some r∧evL G T Zah [(3,.ptr 0 0),(4,.ptr 1 0),(5,.ptr 2 0),(6,.ptr 3 0),(8,.ptr 4 0),(24,.int .i64 (j : Int))] ⟨wkB F (ZL z l) (ZL y D) t :: zB x :: zB v :: zB q :: zB s :: bs,[]⟩ =
   some (.ret,[(6,.ptr 3 0),(7,.int .i64 0)],⟨wkB F (ZL z l) (ZL y D) t :: zB x :: zB v :: zB r :: zB s :: bs',[]⟩)) ∨
  (∃ bs',tryP F l x s v m j = none∧evL G T Zah [(3,.ptr 0 0),(4,.ptr 1 0),(5,.ptr 2 0),(6,.ptr 3 0),(8,.ptr 4 0),(24,.int .i64 (j : Int))] ⟨wkB F (ZL z l) (ZL y D) t :: zB x :: zB v :: zB q :: zB s :: bs,[]⟩ =
   some (.exit 0,[(3,.ptr 0 0),(4,.ptr 1 0),(5,.ptr 2 0),(6,.ptr 3 0),(8,.ptr 4 0),(24,.int .i64 7),(25,.bool false)],⟨wkB F (ZL z l) (ZL y D) t :: zB x :: zB v :: zB q :: zB s :: bs',[]⟩))
 | 0,j,bs,hj => by
  have : j = 7:=by omega
  subst this
  refine .inr ⟨bs,rfl,?_⟩
  rw [Zro,show ((7 : Nat) : Int) = 7 from rfl]
  repeat' (first | simp only [seval,exC,Zax] | simp (disch:=omega) only [dxB])
 | m + 1,j,bs,hj => by
  have hlt : (j : Int) < 7:=by omega
  have w1 : IntKind.i64.wrap ((j : Int) + 1) = ((j + 1 : Nat) : Int):=by rw [Zac (by omega)]; rfl
  have p1:=ZFs J hP hO F (z:=z) (y:=y) (t:=t) (l:=l) (D:=D) ws (j:=j) (by omega)
  have wh:=ZHa ws j
  have d1:=Zqw J F (md:=1) (by decide) wx.1 wx.2 wh.1 wh.2
  have wy:=yJ_w (F:=F) x s j
  have n1:=ZlQ J hO F (z:=z) (y:=y) (t:=t) (l:=l) (D:=D) wy
  have eY : yJ F x s j = ((subW F 1 x.1 (haZ F s j).1).1,(subW F 1 x.2 (haZ F s j).2).1):=rfl
  rw [tryP]
  by_cases h1 : Zf F (yJ F x s j)
  ·have e1:=ZHV J hP hO F (z:=z) (y:=y) (t:=t) (D:=D) hl wy h1
   have wu:=ZtS (yJ F x s j) hl.w
   have n2:=ZlQ J hO F (z:=z) (y:=y) (t:=t) (l:=l) (D:=D) wu
   have k1:=Zuu J hO F (z:=z) (y:=y) (t:=t) (l:=l) (D:=D) wu wv
   rw [@decide_eq_true _ (Classical.propDecidable _) h1] at n1
   by_cases h2 : Zf F (evE F (yJ F x s j) l).1
   ·rw [@decide_eq_true _ (Classical.propDecidable _) h2] at n2
    by_cases h3 : lsZ F (evE F (yJ F x s j) l).1 v
    ·rw [@decide_eq_true _ (Classical.propDecidable _) h3] at k1
     have hg : goodY F l v (yJ F x s j):=⟨h1,h2,h3⟩
     rw [if_pos hg]
     clear wu wy hg h1 h2 h3
     generalize evE F (yJ F x s j) l = V at *
     rw [eY] at n1 e1 ⊢
     generalize haZ F s j = hz at *
     generalize subW F 1 x.1 hz.1 = A at *
     generalize subW F 1 x.2 hz.2 = B at *
     refine .inl ⟨(A.1,B.1),bs ++ [⟨[.int .u64 (A.1 : Int),.int .u64 (B.1 : Int),.int .u8 (A.2 : Int),.int .u8 (B.2 : Int)],false⟩,zB V.1],rfl,?_⟩
     rw [Zro]
     simp only [zA,zB,zrA,wkA,wkB,vlA] at *
     repeat' (first | simp only [seval,exC,Zax,hlt,p1,d1,n1,e1,n2,k1,Zsy,gaB,ZB,w1] | simp (disch:=omega) only [dxB])
    ·rw [@decide_eq_false _ (Classical.propDecidable _) h3] at k1
     rw [if_neg (fun r : goodY F l v (yJ F x s j) => h3 r.2.2)]
     clear wu wy h1 h2 h3
     generalize evE F (yJ F x s j) l = V at *
     rw [eY] at n1 e1
     generalize haZ F s j = hz at *
     generalize subW F 1 x.1 hz.1 = A at *
     generalize subW F 1 x.2 hz.2 = B at *
     have ih:=Zjg J hP hO F (z:=z) (y:=y) (t:=t) (D:=D) (q:=q) hl wx ws wv m (j + 1) (bs ++ [⟨[.int .u64 (A.1 : Int),.int .u64 (B.1 : Int),.int .u8 (A.2 : Int),.int .u8 (B.2 : Int)],false⟩,zB V.1]) (by omega)
     have st : evL G T Zah [(3,.ptr 0 0),(4,.ptr 1 0),(5,.ptr 2 0),(6,.ptr 3 0),(8,.ptr 4 0),(24,.int .i64 (j : Int))] ⟨wkB F (ZL z l) (ZL y D) t :: zB x :: zB v :: zB q :: zB s :: bs,[]⟩ = evL G T Zah [(3,.ptr 0 0),(4,.ptr 1 0),(5,.ptr 2 0),(6,.ptr 3 0),(8,.ptr 4 0),(24,.int .i64 ((j + 1 : Nat) : Int))] ⟨wkB F (ZL z l) (ZL y D) t :: zB x :: zB v :: zB q :: zB s :: (bs ++ [⟨[.int .u64 (A.1 : Int),.int .u64 (B.1 : Int),.int .u8 (A.2 : Int),.int .u8 (B.2 : Int)],false⟩,zB V.1]),[]⟩:=by
      clear ih
      rw [Zro]
      simp only [zA,zB,zrA,wkA,wkB,vlA] at *
      repeat' (first | simp only [seval,exC,Zax,hlt,p1,d1,n1,e1,n2,k1,Zsy,gaB,ZB,w1] | simp (disch:=omega) only [dxB])
     rw [st]; exact ih
   ·rw [@decide_eq_false _ (Classical.propDecidable _) h2] at n2
    rw [if_neg (fun r : goodY F l v (yJ F x s j) => h2 r.2.1)]
    clear wu wy h1 h2 k1
    generalize evE F (yJ F x s j) l = V at *
    rw [eY] at n1 e1
    generalize haZ F s j = hz at *
    generalize subW F 1 x.1 hz.1 = A at *
    generalize subW F 1 x.2 hz.2 = B at *
    have ih:=Zjg J hP hO F (z:=z) (y:=y) (t:=t) (D:=D) (q:=q) hl wx ws wv m (j + 1) (bs ++ [⟨[.int .u64 (A.1 : Int),.int .u64 (B.1 : Int),.int .u8 (A.2 : Int),.int .u8 (B.2 : Int)],false⟩,zB V.1]) (by omega)
    have st : evL G T Zah [(3,.ptr 0 0),(4,.ptr 1 0),(5,.ptr 2 0),(6,.ptr 3 0),(8,.ptr 4 0),(24,.int .i64 (j : Int))] ⟨wkB F (ZL z l) (ZL y D) t :: zB x :: zB v :: zB q :: zB s :: bs,[]⟩ = evL G T Zah [(3,.ptr 0 0),(4,.ptr 1 0),(5,.ptr 2 0),(6,.ptr 3 0),(8,.ptr 4 0),(24,.int .i64 ((j + 1 : Nat) : Int))] ⟨wkB F (ZL z l) (ZL y D) t :: zB x :: zB v :: zB q :: zB s :: (bs ++ [⟨[.int .u64 (A.1 : Int),.int .u64 (B.1 : Int),.int .u8 (A.2 : Int),.int .u8 (B.2 : Int)],false⟩,zB V.1]),[]⟩:=by
     clear ih
     rw [Zro]
     simp only [zA,zB,zrA,wkA,wkB,vlA] at *
     repeat' (first | simp only [seval,exC,Zax,hlt,p1,d1,n1,e1,n2,Zsy,gaB,ZB,w1] | simp (disch:=omega) only [dxB])
    rw [st]; exact ih
  ·rw [@decide_eq_false _ (Classical.propDecidable _) h1] at n1
   rw [if_neg (fun r : goodY F l v (yJ F x s j) => h1 r.1)]
   clear wy h1
   rw [eY] at n1
   generalize haZ F s j = hz at *
   generalize subW F 1 x.1 hz.1 = A at *
   generalize subW F 1 x.2 hz.2 = B at *
   have ih:=Zjg J hP hO F (z:=z) (y:=y) (t:=t) (D:=D) (q:=q) hl wx ws wv m (j + 1) (bs ++ [⟨[.int .u64 (A.1 : Int),.int .u64 (B.1 : Int),.int .u8 (A.2 : Int),.int .u8 (B.2 : Int)],false⟩]) (by omega)
   have st : evL G T Zah [(3,.ptr 0 0),(4,.ptr 1 0),(5,.ptr 2 0),(6,.ptr 3 0),(8,.ptr 4 0),(24,.int .i64 (j : Int))] ⟨wkB F (ZL z l) (ZL y D) t :: zB x :: zB v :: zB q :: zB s :: bs,[]⟩ = evL G T Zah [(3,.ptr 0 0),(4,.ptr 1 0),(5,.ptr 2 0),(6,.ptr 3 0),(8,.ptr 4 0),(24,.int .i64 ((j + 1 : Nat) : Int))] ⟨wkB F (ZL z l) (ZL y D) t :: zB x :: zB v :: zB q :: zB s :: (bs ++ [⟨[.int .u64 (A.1 : Int),.int .u64 (B.1 : Int),.int .u8 (A.2 : Int),.int .u8 (B.2 : Int)],false⟩]),[]⟩:=by
    clear ih
    rw [Zro]
    simp only [zA,zB,zrA,wkA,wkB,vlA] at *
    repeat' (first | simp only [seval,exC,Zax,hlt,p1,d1,n1,gaB,ZB,w1] | simp (disch:=omega) only [dxB])
   rw [st]; exact ih
theorem ZFt (J : Al G T g) (hP : HasK g T) (hO : HasO g T) (F : Fm) {z y t : Bool} {l D : List (Nat × Nat)} {x v : Nat × Nat} (hl : Pg F l) (hD : ¬ 41 < D.length) (wD : Zws F D) (ht : t = true↔Zfs F D) (wx : Zw F x) (fx : Zf F x) (wv : Zw F v) (fv : Zf F v) :
  run G T 403 [wkA F (ZL z l) (ZL y D) t,zA x.1 x.2,zA v.1 v.2] = some (.tup [zA (stP F l D x v).1.1 (stP F l D x v).1.2,.int .i64 ((stP F l D x v).2 : Int)]):=by
 rw [Zab G T hO.polish_walk_step]
 unfold stP
 rcases ZCe J hP hO F (z:=z) (y:=y) (l:=l) hD wD ht wx fx wv fv with ⟨h1,q,s1⟩ | ⟨s,h1,ws,fs,s1⟩
 ·rw [h1]
  simp only [zA,wkA,cast0] at *
  repeat' (first | simp only [seval,exC,Zbh,ZB,s1] | simp (disch:=omega) only [dxB])
 ·rw [h1]
  simp only
  rcases Zjg J hP hO F (z:=z) (y:=y) (t:=t) (D:=D) (q:=(0,0)) hl wx ws wv 7 0 [] (by omega) with ⟨r,bs',h2,lp⟩ | ⟨bs',h2,lp⟩
  ·rw [h2]
   simp only [zA,zB,wkA,wkB,cast0] at *
   repeat' (first | simp only [seval,exC,Zbh,ZB,s1,lp] | simp (disch:=omega) only [dxB])
  ·rw [h2]
   simp only [zA,zB,wkA,wkB,cast0] at *
   repeat' (first | simp only [seval,exC,Zbh,ZB,s1,lp] | simp (disch:=omega) only [dxB])
theorem ZHW (J : Al G T g) (hP : HasK g T) (hO : HasO g T) (F : Fm) {z y t last : Bool} {l D : List (Nat × Nat)} {x : Nat × Nat} (hl : Pg F l) (hD : ¬ 41 < D.length) (wD : Zws F D) (ht : t = true↔Zfs F D) (wx : Zw F x) (fx : Zf F x) :
  run G T 396 [wkA F (ZL z l) (ZL y D) t,zA x.1 x.2,.bool last] = some (.tup [zA (onP F l D x last).1.1 (onP F l D x last).1.2,.int .i64 ((onP F l D x last).2 : Int)]):=by
 rw [Zab G T hO.polish_walk_on]
 have e1:=ZHV J hP hO F (z:=z) (y:=y) (t:=t) (D:=D) hl wx fx
 have wv:=ZtS x hl.w
 have n1:=ZlQ J hO F (z:=z) (y:=y) (t:=t) (l:=l) (D:=D) wv
 have z0 : (0 : Nat) < 2 * F.sg:=by cases F <;> decide
 have k1:=Zuu J hO F (z:=z) (y:=y) (t:=t) (l:=l) (D:=D) (p:=((evE F x l).2,0)) (q:=(evE F x l).1) ⟨ZEu x hl.w,z0⟩ wv
 unfold onP
 by_cases h1 : Zf F (evE F x l).1
 ·rw [@decide_eq_true _ (Classical.propDecidable _) h1] at n1
  rw [if_neg (not_not_intro h1)]
  by_cases h2 : lsZ F ((evE F x l).2,0) (evE F x l).1
  ·rw [@decide_eq_true _ (Classical.propDecidable _) h2] at k1
   rw [if_neg (not_not_intro h2)]
   cases last
   ·rw [if_neg (by decide)]
    have s1:=ZFt J hP hO F (z:=z) (y:=y) hl hD wD ht wx fx wv h1
    generalize stP F l D x (evE F x l).1 = R at *
    clear wv h1 h2
    generalize evE F x l = V at *
    simp only [zA,zB,wkA,wkB,vlA,cast0] at *
    repeat' (first | simp only [seval,exC,Zbl,ZB,e1,n1,k1,s1] | simp (disch:=omega) only [dxB])
   ·rw [if_pos rfl]
    clear wv h1 h2
    generalize evE F x l = V at *
    simp only [zA,zB,wkA,wkB,vlA,cast0] at *
    repeat' (first | simp only [seval,exC,Zbl,ZB,e1,n1,k1] | simp (disch:=omega) only [dxB])
  ·rw [@decide_eq_false _ (Classical.propDecidable _) h2] at k1
   rw [if_pos h2]
   clear wv h1 h2
   generalize evE F x l = V at *
   simp only [zA,zB,wkA,wkB,vlA,cast0] at *
   repeat' (first | simp only [seval,exC,Zbl,ZB,e1,n1,k1] | simp (disch:=omega) only [dxB])
 ·rw [@decide_eq_false _ (Classical.propDecidable _) h1] at n1
  rw [if_pos h1]
  clear wv h1 k1
  generalize evE F x l = V at *
  simp only [zA,zB,wkA,wkB,vlA,cast0] at *
  repeat' (first | simp only [seval,exC,Zbl,ZB,e1,n1] | simp (disch:=omega) only [dxB])
end Go.Cv
namespace Go.Cv
variable {G : Nat→Option (List AV)} {T : Tbl} {g : Nat}
section
variable (X : XF)
theorem Zyc (f : Nat) (args : List AV) (h : Heap) : CFX G T X false f args h = CF G T false f args h:=by
 unfold CFX CF
 rw [Znh,Znh]
 cases T f <;> simp [noX]
theorem ZFN (h : Mem) (f : Nat) (args : List AV) : evCall (CFX G T X) h (.fn f []) args = kCall G T h f (snaps h args) args:=by
 rw [← ZDA]
 simp only [evCall,Zyc]
noncomputable def kSX (o : Option (Ex × Env × Heap)) (b : IC) : Option (Ex × Env × Heap):=o.bind (thenB (evX G T X b))
theorem ZBO (e : Env) (h : Heap) (b : IC) : kSX (G:=G) (T:=T) X (some (.norm,e,h)) b = evX G T X b e h:=rfl
theorem ZEM (e : Env) (h : Heap) (b : IC) : kSX (G:=G) (T:=T) X (some (.ret,e,h)) b = some (.ret,e,h):=rfl
theorem ZBN (i : Nat) (e : Env) (h : Heap) (b : IC) : kSX (G:=G) (T:=T) X (some (.exit i,e,h)) b = some (.exit i,e,h):=rfl
theorem ZIm (a b : IC) (e : Env) (h : Heap) : evX G T X (.seq a b) e h = kSX (G:=G) (T:=T) X (evX G T X a e h) b:=ZyV G T X a b e h
theorem ZCq {c : IC} {l : List Nat} {a : IC} (hc : c = .loop l a) (e : Env) (h : Heap) : evX G T X c e h = kSX (G:=G) (T:=T) X (evX G T X a (keepE l e) h) c:=by subst hc; exact Zwp G T X l a e h
theorem ZFK (ops : List IOper) (l : List Nat) (e : Env) (h : Heap) : evX G T X (.reg ops l []) e h = kR0 (evOps G (CFX G T X) ops e h) l:=ZyT G T X ops l [] e h
noncomputable def kIX (v : AV) (a b : IC) (e : Env) (h : Heap) : Option (Ex × Env × Heap):=match v with | .bool t => if t then evX G T X a e h else evX G T X b e h | _ => none
theorem ZBL (a b : IC) (e : Env) (h : Heap) : kIX (G:=G) (T:=T) X (.bool true) a b e h = evX G T X a e h:=rfl
theorem Zzj (a b : IC) (e : Env) (h : Heap) : kIX (G:=G) (T:=T) X (.bool false) a b e h = evX G T X b e h:=rfl
theorem ZFJ (c : IOpd) (a b : IC) (e : Env) (h : Heap) : evX G T X (.cond c a b) e h = kIX (G:=G) (T:=T) X (opd e c) a b e h:=Zwo G T X c a b e h
theorem ZCp (id : Nat) (a : IC) (e : Env) (h : Heap) : evX G T X (.block id a) e h = kX id (evX G T X a e h):=ZtT G T X id a e h
theorem ZIl (e : Env) (h : Heap) : evX G T X .ret e h = some (.ret,e,h):=ZyU G T X e h
theorem ZFL (e : Env) (h : Heap) : evX G T X .skip e h = some (.norm,e,h):=Zwq G T X e h
def kY (F : CallF) (f : AV) (args : List AV) (d : Option Nat) (os : List IOper) (e : Env) (h : Heap) : Option (Env × Heap) :=
 kW G F (match f with | .yv => F true 0 args h | .fn f cap => F true f (args ++ cap) h | _ => none) d os e
theorem ZCA (F : CallF) (t : Nat) (args : List IOpd) (d : Option Nat) (os : List IOper) (e : Env) (h : Heap) :
  evOps G F (⟨d,.call true (.t t) args,none⟩ :: os) e h = kY (G:=G) F (opd e (.t t)) (args.map (opd e)) d os e h:=by
 rw [Ztk]
 unfold kY
 refine congrArg (fun o => kW G F o d os e) ?_
 simp only [evW]
 cases opd e (.t t) <;> rfl
theorem ZJN (F : CallF) (args : List AV) (d : Option Nat) (os : List IOper) (e : Env) (h : Heap) : kY (G:=G) F .yv args d os e h = kW G F (F true 0 args h) d os e:=rfl
theorem Ztw (h0 : T 0 = none) (args : List AV) (h : Heap) : CFX G T X true 0 args h = X args h:=by
 unfold CFX
 rw [Znh,h0]
 simp
end
def sXB:=ai (ai (ai (ai @ZFN @ZBO) (ai @ZEM @ZBN)) (ai (ai @ZIm @ZFK) (ai @ZBL @Zzj))) (ai (ai (ai @ZFJ @ZCp) (ai @ZIl @ZFL)) (ai @ZCA @ZJN))
def kF (e : Env) (o : Option (Ex × Env × Heap)) : Option (Ex × Env × Heap):=o.bind (endF e)
theorem ZHm (e e' : Env) (h : Heap) : kF e (some (.ret,e',h)) = some (.norm,e,h):=rfl
noncomputable def kRg (G : Nat→Option (List AV)) (T : Tbl) (v : AV) (ps : List Nat) (a b : IC) (e : Env) (h : Heap) : Option (Ex × Env × Heap):=match v with
 | .fn f cap => (T f).bind fun fn => if fn.res.isEmpty = true then kF e (evX G T (roundB (evL G T) ps (.seq a b) e) fn.body (numE 0 (.yv :: cap)) h) else none
 | _ => none
theorem ZCr (v : IOpd) (ps : List Nat) (a b : IC) (e : Env) (h : Heap) : evL G T (.rangeF v ps a b) e h = kRg G T (opd e v) ps a b e h:=ZxI G T v ps a b e h
theorem ZHt {f : Nat} {fn : IFn} (hT : T f = some fn) (hr : fn.res.isEmpty = true) (cap : List AV) (ps : List Nat) (a b : IC) (e : Env) (h : Heap) :
  kRg G T (.fn f cap) ps a b e h = kF e (evX G T (roundB (evL G T) ps (.seq a b) e) fn.body (numE 0 (.yv :: cap)) h):=by
 unfold kRg; simp only [hT,Option.bind_some,if_pos hr]
theorem ZvA {E : IC→Env→Heap→Option (Ex × Env × Heap)} {ps : List Nat} {c : IC} {e e' : Env} {args : List AV} {h h' : Heap} (hl : args.length = ps.length∧args.all okV = true) (hc : E c (setPs ps args e) h = some (.norm,e',h')) :
  roundB E ps c e args h = some (.bool true,h'):=by
 unfold roundB
 rw [if_pos hl,hc]; rfl
theorem ZzW {f : Nat} {fn : IFn} (hT : T f = some fn) {args : List AV} {v r : AV} {h : Heap} (hk : kJ G fn.res (evL G T fn.body (numE 0 args) .nil) = some (v,h)) (hs : snap h.mem v = some r) : run G T f args = some r:=by
 rw [Zab G T hT]
 cases he : evL G T fn.body (numE 0 args) .nil with
 | none => rw [he] at hk; cases hk
 | some q =>
  obtain ⟨x,e,h2⟩:=q
  rw [he] at hk
  cases x <;> simp only [kJ,Option.bind_some,reduceCtorEq] at hk <;> simp only [kE,Option.bind_some]
  all_goals
   cases hr : resL G e h2 fn.res with
   | none => rw [hr] at hk; cases hk
   | some vs =>
    rw [hr] at hk
    simp only [Option.bind_some,Option.some.injEq,Prod.mk.injEq] at hk ⊢
    obtain ⟨rfl,rfl⟩:=hk
    exact hs
def SL (hs : List Blk) (M pc qc : Nat) (V : AV) (z : Bool) (l : List (Nat × Nat)) : Prop :=
 V = ZL z l∨(z = false∧∃ k w,V = .own k 0 l.length 2∧hs[k]? = some ⟨zcells l ++ w,false⟩∧k < M∧k≠pc∧k≠qc)
section
variable {hs hs' : List Blk} {M pc qc : Nat} {V : AV} {z : Bool} {l : List (Nat × Nat)}
theorem SL.mono (h : SL hs M pc qc V z l) (hk : ∀ j,j < M→j≠pc→j≠qc→hs'[j]? = hs[j]?) : SL hs' M pc qc V z l:=by
 rcases h with h | ⟨h,k,w,a,b,c,d,e⟩
 ·exact .inl h
 ·exact .inr ⟨h,k,w,a,(hk k c d e).trans b,c,d,e⟩
theorem SL.sn (h : SL hs M pc qc V z l) : snapA (snapG (Heap.mem ⟨hs,[]⟩) 3) V = some (ZL z l):=by
 rcases h with rfl | ⟨rfl,k,w,rfl,b,_⟩
 ·exact sn_Z _ z l
 ·rw [ZuK]; exact sg_Z (d:=2) (ZoQ b)
theorem SL.okc (h : SL hs M pc qc V z l) : okCell V = true:=by
 rcases h with rfl | ⟨rfl,k,w,rfl,b,_⟩
 ·exact ZHO z l
 ·rfl
theorem SL.ca (h : SL hs M pc qc V z l) : cellsA V = [V]:=by
 rcases h with rfl | ⟨rfl,k,w,rfl,b,_⟩
 ·exact ca_Z z l
 ·rfl
theorem SL.len (h : SL hs M pc qc V z l) : lenA V = some l.length:=by
 rcases h with rfl | ⟨rfl,k,w,rfl,b,_⟩
 ·exact ZDr z l
 ·rfl
theorem SL.at_ (h : SL hs M pc qc V z l) {i : Nat} (hi : i < l.length) (h41 : l.length≤41) : ∃ P,iaddrV 2 V (.int .i64 (i : Int)) = some P∧∀ hs',(∀ j,j < M→j≠pc→j≠qc→hs'[j]? = hs[j]?)→rdAt G (Heap.mem ⟨hs',[]⟩) 2 P = some [.int .u64 ((zc l i).1 : Int),.int .u64 ((zc l i).2 : Int)]:=by
 rcases h with rfl | ⟨rfl,k,w,rfl,b,c,d,e⟩
 ·have ia:=Zip (z:=z) (l:=l) (k:=.i64) (j:=(i : Int)) ⟨by omega,by omega⟩
  rw [Int.toNat_natCast] at ia
  exact ⟨_,ia,fun hs' _ => rd_Z _ hi⟩
 ·exact ⟨_,Zwy hi,fun hs' hk => ZzS hi ((hk k c d e).trans b)⟩
end
theorem ZsS (n b : Nat) : okCell (outV n b) = true:=by unfold outV; split <;> rfl
theorem Zwe (n b : Nat) : cellsA (outV n b) = [outV n b]:=by unfold outV; split <;> rfl
theorem Zzb (h : Mem) (k1 k2 k3 : IntKind) (a b c : Int) (args : List AV) : frz h (.tup [.agg [.int k1 a,.int k2 b],.int k3 c]) args = []:=by simp [frz,refA,refA.go]
end Go.Cv
namespace Go.Cv
variable {G : Nat→Option (List AV)} {T : Tbl} {g : Nat}
set_option maxHeartbeats 8000000 in
theorem ZwO (J : Al G T g) (hP : HasK g T) (F : Fm) {l : List (Nat × Nat)} {V : AV} {z : Bool} {B : List Blk} (hl : l.length≤41) (hw : Zws F l) (hV : SL B B.length B.length B.length V z l) : ∀ (m i b : Nat) (bs : List Blk),1≤i→i + m = l.length→B.length≤bs.length→(∀ j,j < B.length→bs[j]? = B[j]?)→(1 < i→bs[b]? = some ⟨zcells (dT F l i),false⟩∧B.length≤b) →
  ∃ b' bs',evL G T Zck [(0,.int .u8 F.u),(7,outV i b),(26,V),(27,.int .i64 (l.length : Int)),(28,.int .i64 (i : Int))] ⟨bs,[]⟩ =
   some (.exit 0,[(0,.int .u8 F.u),(7,outV l.length b'),(26,V),(27,.int .i64 (l.length : Int)),(28,.int .i64 (l.length : Int)),(29,.bool false)],⟨bs',[]⟩)∧B.length≤bs'.length∧(∀ j,j < B.length→bs'[j]? = B[j]?)∧(1 < l.length→bs'[b']? = some ⟨zcells (dT F l l.length),false⟩∧B.length≤b')
 | 0,i,b,bs,h1,hi,hk,hfr,hb => by
  have he : i = l.length:=by omega
  subst he
  have hn : ¬ (l.length : Int) < (l.length : Int):=by omega
  refine ⟨b,bs,?_,hk,hfr,hb⟩
  rw [ZsW]
  generalize outV l.length b = o at *
  repeat' (first | simp only [seval,exC,Zcj,ZB,hn] | simp (disch:=omega) only [dxB])
 | m + 1,i,b,bs,h1,hi,hk,hfr,hb => by
  have hil : i < l.length:=by omega
  have hlt : (i : Int) < (l.length : Int):=by omega
  have hne : ¬ (i : Int) = 0:=by omega
  have wa:=hw _ (Zpu hil)
  have w1 : IntKind.i64.wrap ((i : Int) + 1) = ((i + 1 : Nat) : Int):=by rw [Zac (by omega)]; rfl
  obtain ⟨P,io,ro⟩:=hV.at_ (G:=G) hil hl
  have ro:=ro bs fun j hj _ _ => hfr j hj
  have f1:=Zly J hP F (n:=i) (by omega)
  have u1:=Zoy J F (md:=1) (by decide) (ZBs F i) wa.1
  have u2:=Zoy J F (md:=1) (by decide) (ZBs F i) wa.2
  have eE : elD F i (zc l i) = ((mulW2 F 1 (fI F i) (zc l i).1).1,(mulW2 F 1 (fI F i) (zc l i).2).1):=rfl
  obtain ⟨b2,hs2,ap,hb2e,hb2,fr⟩:=Zsn (hs:=bs ++ [⟨[.int .u64 ((zc l i).1 : Int),.int .u64 ((zc l i).2 : Int)],false⟩,⟨[.int .u64 ((elD F i (zc l i)).1 : Int),.int .u64 ((elD F i (zc l i)).2 : Int)],false⟩]) (c:=bs.length + 1) (b:=b) (i:=i) (L:=dT F l i) h1 (by omega) (by rw [List.getElem?_append_right (by omega),Nat.add_sub_cancel_left]; rfl) (ZrO F (by omega)) (fun q => by
   have:=(hb q).1
   rw [List.getElem?_append_left (List.getElem?_eq_some_iff.1 this).1]; exact this)
  rw [Zru,← ZyE F h1 hil] at hb2
  rw [eE] at ap
  dsimp only at ap
  have hl2 : bs.length < hs2.length:=by
   have:=(List.getElem?_eq_some_iff.1 hb2).1
   rw [hb2e,List.length_append] at this; simp only [List.length_cons,List.length_nil] at this; omega
  have hfr2 : ∀ j,j < B.length→hs2[j]? = B[j]?:=fun j hj => by
   rw [fr j (by rw [List.length_append]; omega) (fun q e => by have:=(hb q).2; omega),List.getElem?_append_left (by omega)]; exact hfr j hj
  obtain ⟨b',bs',ih,hk',hfk,hfin⟩:=ZwO J hP F hl hw hV m (i + 1) _ hs2 (by omega) (by omega) (by omega) hfr2 (fun _ => ⟨hb2,by rw [hb2e,List.length_append]; omega⟩)
  refine ⟨b',bs',?_,hk',hfk,hfin⟩
  rw [← ih,ZsW]
  generalize outV i b = o at *
  generalize outV (i + 1) b2 = o2 at *
  generalize mulW2 F 1 (fI F i) (zc l i).1 = M1 at *
  generalize mulW2 F 1 (fI F i) (zc l i).2 = M2 at *
  generalize fI F i = ww at *
  generalize (rndW F 1 (intD (i : Int))).2 = fl at *
  generalize zc l i = a at *
  clear hb hb2 hfin hfk fr hb2e hfr2 hfr hk' hl2
  repeat' (first | simp only [seval,exC,Zcj,gaB,hlt,hne,io,ro,f1,u1,u2,Zmc,ap,w1] | simp (disch:=omega) only [dxB])
set_option maxHeartbeats 8000000 in
theorem Zvt (J : Al G T g) (hP : HasK g T) (F : Fm) {l : List (Nat × Nat)} {V : AV} {z : Bool} {bs : List Blk} (hl : Pg F l) (hV : SL bs bs.length bs.length bs.length V z l) :
  ∃ b' bs',kJ G Zdj.res (evL G T Zdj.body [(0,.int .u8 F.u),(1,V)] ⟨bs,[]⟩) = some (.tup [outV l.length b',.int .i64 0],⟨bs',[]⟩)∧bs.length≤bs'.length∧(∀ j,j < bs.length→bs'[j]? = bs[j]?)∧(1 < l.length→bs'[b']? = some ⟨zcells (dE F l),false⟩∧bs.length≤b'):=by
 have z0 : (0 : Nat) < 2 * F.sg:=by cases F <;> decide
 have f0 : F.fin 0:=Zbu.2 (Or.inl (by cases F <;> decide))
 have o1:=ZjY J hP F (z:=z) (l:=l) (a:=0) (b:=0) (Pg.w64 hl.w) (by decide) (by decide)
 rw [ZnZ hl.len ⟨hl.w,z0,z0⟩ ⟨hl.f,f0,f0⟩] at o1
 have sg:=hV.sn
 have ln:=hV.len
 by_cases h0 : l.length = 0
 ·have hn : (l.length : Int) = 0:=by omega
  refine ⟨0,bs,?_,Nat.le_refl _,fun j _ => rfl,fun q => absurd q (by omega)⟩
  rw [show outV l.length 0 = AV.nil from if_pos (by omega)]
  simp only [zA,cast0] at *
  repeat' (first | simp only [seval,exC,Zdj,ZsW,Zcj,ZsD,sg,ln,o1,hn] | simp (disch:=omega) only [dxB])
 ·obtain ⟨P,io,ro⟩:=hV.at_ (G:=G) (i:=0) (by omega) (by have:=hl.len; omega)
  have ro:=ro bs fun j _ _ _ => rfl
  have hlt : (0 : Int) < (l.length : Int):=by omega
  obtain ⟨b',bs',lp,hk',hfk,hfin⟩:=ZwO J hP F (by have:=hl.len; omega) hl.w hV (l.length - 1) 1 0 (bs ++ [⟨[.int .u64 ((zc l 0).1 : Int),.int .u64 ((zc l 0).2 : Int)],false⟩]) (by omega) (by omega) (by simp) (fun j hj => List.getElem?_append_left hj) (fun q => absurd q (by omega))
  rw [show outV 1 0 = AV.nil from rfl,show (((1 : Nat)) : Int) = 1 from rfl] at lp
  rw [ZtK] at hfin
  refine ⟨b',bs',?_,hk',hfk,hfin⟩
  have st0 : evL G T Zck [(0,.int .u8 F.u),(7,.nil),(26,V),(27,.int .i64 (l.length : Int)),(28,.int .i64 0)] ⟨bs,[]⟩ =
    evL G T Zck [(0,.int .u8 F.u),(7,.nil),(26,V),(27,.int .i64 (l.length : Int)),(28,.int .i64 1)] ⟨bs ++ [⟨[.int .u64 ((zc l 0).1 : Int),.int .u64 ((zc l 0).2 : Int)],false⟩],[]⟩:=by
   have w1 : IntKind.i64.wrap ((0 : Int) + 1) = 1:=rfl
   rw [ZsW]
   generalize zc l 0 = a at *
   simp only [cast0] at *
   repeat' (first | simp only [seval,exC,Zcj,gaB,hlt,io,ro,w1] | simp (disch:=omega) only [dxB])
  rw [← st0] at lp
  generalize outV l.length b' = o at *
  clear hfk hfin st0 hk' hV
  simp only [zA,cast0] at *
  repeat' (first | simp only [seval,exC,Zdj,gaB,ZsD,sg,ln,o1,lp] | simp (disch:=omega) only [dxB])
structure PM (F : Fm) (M pc qc : Nat) (hs : List Blk) (V W : AV) (z y : Bool) (l D : List (Nat × Nat)) (t : Bool) (x : Nat × Nat) (steps : Nat) (P : List (Nat × Nat)) (w0 : Int) (b : Nat) : Prop where
 hw : hs[M]? = some (wkB F V W t)
 hx : hs[M + 1]? = some (zB x)
 hn : hs[M + 2]? = some ⟨[.int .i64 (steps : Int)],false⟩
 hp : hs[pc]? = some ⟨[outV (P.length + 1) b],false⟩
 hq : hs[qc]? = some ⟨[.int .i64 w0],false⟩
 hb : 1 < P.length + 1→hs[b]? = some ⟨zcells P,false⟩∧M + 3≤b
 hv : SL hs M pc qc V z l
 hd : SL hs M pc qc W y D
 lt : pc < M∧qc < M∧pc≠qc
 len : M + 3≤hs.length
noncomputable def rdX (G : Nat→Option (List AV)) (T : Tbl) (pc qc : Nat) (fv : AV) : XF:=roundB (evL G T) [64,65] (.seq ZeX ZeY) [(8,.ptr pc 0),(9,.ptr qc 0),(63,fv)]
set_option maxHeartbeats 8000000 in
theorem ZrY {F : Fm} {M pc qc : Nat} {hs : List Blk} {V W fv : AV} {z y : Bool} {l D : List (Nat × Nat)} {t : Bool} {x : Nat × Nat} {steps : Nat} {P : List (Nat × Nat)} {w0 : Int} {b : Nat} (h : PM F M pc qc hs V W z y l D t x steps P w0 b) (hP : P.length≤900) (why : Int) :
  ∃ b' hs',rdX G T pc qc fv [zA x.1 x.2,.int .i64 why] ⟨hs,[]⟩ = some (.bool true,⟨hs',[]⟩)∧PM F M pc qc hs' V W z y l D t x steps (P ++ [x]) why b'∧(∀ j,j < hs.length→j≠pc→j≠qc→(1 < P.length + 1→j≠b)→hs'[j]? = hs[j]?)∧hs.length≤hs'.length:=by
 obtain ⟨l1,l2,l3⟩:=h.lt
 have ll:=h.len
 obtain ⟨b2,hs2,ap,hb2e,hb2,fr⟩:=Zsn (hs:=hs ++ [zB x,zB x]) (c:=hs.length + 1) (b:=b) (i:=P.length + 1) (L:=P) (x:=.int .u64 (x.1 : Int)) (y:=.int .u64 (x.2 : Int)) (by omega) (by omega) (by rw [List.getElem?_append_right (by omega),Nat.add_sub_cancel_left]; rfl) (by omega) (fun q => by
   have:=(h.hb q).1
   rw [List.getElem?_append_left (List.getElem?_eq_some_iff.1 this).1]; exact this)
 have hbl : hs.length < hs2.length:=by
  have:=(List.getElem?_eq_some_iff.1 hb2).1
  rw [hb2e,List.length_append] at this; simp only [List.length_cons,List.length_nil] at this; omega
 have fr' : ∀ j,j < hs.length→(1 < P.length + 1→j≠b)→hs2[j]? = hs[j]?:=fun j hj hq => by
  rw [fr j (by rw [List.length_append]; omega) hq,List.getElem?_append_left hj]
 have frM : ∀ j,j < M + 3→hs2[j]? = hs[j]?:=fun j hj => fr' j (by omega) fun q e => by have:=(h.hb q).2; omega
 have hp1 : ∀ L,(hs ++ L)[pc]? = some ⟨[outV (P.length + 1) b],false⟩:=fun L => by rw [List.getElem?_append_left (by omega)]; exact h.hp
 have hp2 : hs2[pc]? = some ⟨[outV (P.length + 1) b],false⟩:=by rw [frM pc (by omega)]; exact h.hp
 have hq2 : ∀ v,(hs2.set pc v)[qc]? = some ⟨[.int .i64 w0],false⟩:=fun v => by rw [List.getElem?_set_ne l3,frM qc (by omega)]; exact h.hq
 refine ⟨b2,(hs2.set pc ⟨[outV (P.length + 1 + 1) b2],false⟩).set qc ⟨[.int .i64 why],false⟩,?_,?_,?_,?_⟩
 ·unfold rdX
  refine ZvA (e':=[]) (by simp [okV,zA,cellsA,okCell]) ?_
  have e1:=ZsS (P.length + 1) b
  have e2:=Zwe (P.length + 1) b
  have e3:=ZsS (P.length + 1 + 1) b2
  have e4:=Zwe (P.length + 1 + 1) b2
  simp only [setPs]
  clear hb2 fr fr' frM hb2e hbl h
  generalize outV (P.length + 1 + 1) b2 = o2 at *
  generalize outV (P.length + 1) b = o at *
  simp only [zA,zB] at *
  repeat' (first | simp only [seval,exC,ZeX,ZeY,gaB,Zmc,hp1,hp2,hq2,ap,e1,e2,e3,e4] | simp (disch:=omega) only [dxB])
 ·have gs : ∀ (j : Nat) (u v : Blk),j≠pc→j≠qc→((hs2.set pc u).set qc v)[j]? = hs2[j]?:=fun j u v a c => by rw [List.getElem?_set_ne (fun q => c q.symm),List.getElem?_set_ne (fun q => a q.symm)]
  have hlt : pc < hs2.length:=by omega
  have hlt2 : qc < hs2.length:=by omega
  have sm : ∀ j,j < M→j≠pc→j≠qc→((hs2.set pc ⟨[outV (P.length + 1 + 1) b2],false⟩).set qc ⟨[.int .i64 why],false⟩)[j]? = hs[j]?:=fun j a c d => by rw [gs j _ _ c d,frM j (by omega)]
  refine ⟨?_,?_,?_,?_,?_,fun _ => ⟨?_,?_⟩,h.hv.mono sm,h.hd.mono sm,h.lt,?_⟩
  ·rw [gs _ _ _ (by omega) (by omega),frM _ (by omega)]; exact h.hw
  ·rw [gs _ _ _ (by omega) (by omega),frM _ (by omega)]; exact h.hx
  ·rw [gs _ _ _ (by omega) (by omega),frM _ (by omega)]; exact h.hn
  ·rw [List.getElem?_set_ne (fun q => l3 q.symm),List.getElem?_set_self hlt,List.length_append]; rfl
  ·rw [List.getElem?_set_self (by rw [List.length_set]; exact hlt2)]
  ·have hb3 : M + 3≤b2:=by rw [hb2e,List.length_append]; omega
   rw [gs _ _ _ (by omega) (by omega),hb2,ZmR]; rfl
  ·rw [hb2e,List.length_append]; omega
  ·rw [List.length_set,List.length_set]; omega
 ·intro j hj a c d
  rw [List.getElem?_set_ne (fun q => c q.symm),List.getElem?_set_ne (fun q => a q.symm)]
  exact fr' j hj d
 ·rw [List.length_set,List.length_set]; omega
theorem PM.ext {F : Fm} {M pc qc : Nat} {hs : List Blk} {V W : AV} {z y : Bool} {l D : List (Nat × Nat)} {t : Bool} {x : Nat × Nat} {steps : Nat} {P : List (Nat × Nat)} {w0 : Int} {b : Nat} (h : PM F M pc qc hs V W z y l D t x steps P w0 b) (B : Blk) : PM F M pc qc (hs ++ [B]) V W z y l D t x steps P w0 b:=by
 have ll:=h.len
 obtain ⟨l1,l2,l3⟩:=h.lt
 have e : ∀ j,j < hs.length→(hs ++ [B])[j]? = hs[j]?:=fun j hj => List.getElem?_append_left hj
 refine ⟨?_,?_,?_,?_,?_,fun q => ⟨?_,(h.hb q).2⟩,h.hv.mono fun j hj _ _ => e j (by omega),h.hd.mono fun j hj _ _ => e j (by omega),h.lt,by rw [List.length_append]; omega⟩
 ·rw [e _ (by omega)]; exact h.hw
 ·rw [e _ (by omega)]; exact h.hx
 ·rw [e _ (by omega)]; exact h.hn
 ·rw [e _ (by omega)]; exact h.hp
 ·rw [e _ (by omega)]; exact h.hq
 ·have:=(h.hb q).1
  rw [e _ (List.getElem?_eq_some_iff.1 this).1]; exact this
theorem PM.setx {F : Fm} {M pc qc : Nat} {hs : List Blk} {V W : AV} {z y : Bool} {l D : List (Nat × Nat)} {t : Bool} {x : Nat × Nat} {steps : Nat} {P : List (Nat × Nat)} {w0 : Int} {b : Nat} (h : PM F M pc qc hs V W z y l D t x steps P w0 b) (x' : Nat × Nat) : PM F M pc qc (hs.set (M + 1) (zB x')) V W z y l D t x' steps P w0 b:=by
 have ll:=h.len
 obtain ⟨l1,l2,l3⟩:=h.lt
 have e : ∀ j,j≠M + 1→(hs.set (M + 1) (zB x'))[j]? = hs[j]?:=fun j hj => List.getElem?_set_ne (fun q => hj q.symm)
 refine ⟨?_,?_,?_,?_,?_,fun q => ⟨?_,(h.hb q).2⟩,h.hv.mono fun j hj _ _ => e j (by omega),h.hd.mono fun j hj _ _ => e j (by omega),h.lt,by rw [List.length_set]; omega⟩
 ·rw [e _ (by omega)]; exact h.hw
 ·rw [List.getElem?_set_self (by omega)]
 ·rw [e _ (by omega)]; exact h.hn
 ·rw [e _ (by omega)]; exact h.hp
 ·rw [e _ (by omega)]; exact h.hq
 ·rw [e _ (by have:=(h.hb q).2; omega)]; exact (h.hb q).1
theorem Zvj (X : XF) (e : Env) (h : Heap) : evX G T X Zbs e h = kSX (G:=G) (T:=T) X (evX G T X ZaL (keepE [0,1,2,3,5] e) h) Zbs:=ZCq X rfl e h
set_option maxHeartbeats 16000000 in
theorem ZyY (J : Al G T g) (hP : HasK g T) (hO : HasO g T) (h0 : T 0 = none) (F : Fm) {M pc qc : Nat} {V W fv : AV} {z y t : Bool} {l D : List (Nat × Nat)} {steps : Nat} (hst : steps≤100) (hl : Pg F l) (hD : ¬ 41 < D.length) (wD : Zws F D) (ht : t = true↔Zfs F D) :
  ∀ (m i : Nat) (x : Nat × Nat) (P : List (Nat × Nat)) (w0 : Int) (b : Nat) (hs : List Blk),i + m = steps→P.length = i→Zw F x→Zf F x→PM F M pc qc hs V W z y l D t x steps P w0 b →
  ∃ b' x' hs' e',evX G T (rdX G T pc qc fv) Zbs [(0,.yv),(1,.ptr M 0),(2,.ptr (M + 1) 0),(3,.ptr (M + 2) 0),(5,.int .i64 (i : Int))] ⟨hs,[]⟩ = some (.ret,e',⟨hs',[]⟩) ∧
   PM F M pc qc hs' V W z y l D t x' steps (P ++ (paP F l D m x).1) ((paP F l D m x).2 : Int) b'∧∀ j,j < M→j≠pc→j≠qc→hs'[j]? = hs[j]?:=by
 intro m
 induction m with
 | zero =>
  intro i x P w0 b hs him hPl wx fx h
  have hi : i = steps:=by omega
  subst hi
  have s1:=ZHW J hP hO F (z:=z) (y:=y) (last:=true) hl hD wD ht wx fx
  have hz:=(ZFn (F:=F) (l:=l) (D:=D) x true).2.2.2.1 rfl
  have hz' : ¬ (((onP F l D x true).2 : Nat) : Int) = 0:=by omega
  obtain ⟨b',hs2,hX,h2,fr,hlen⟩:=ZrY (G:=G) (T:=T) (fv:=fv) (h.ext (zB (onP F l D x true).1)) (by omega) ((onP F l D x true).2 : Int)
  have hx1:=(h.ext (zB (onP F l D x true).1)).hx
  have cy:=Ztw (G:=G) (T:=T) (rdX G T pc qc fv) h0
  have ll:=h.len
  refine ⟨b',x,hs2,[(0,.yv),(1,.ptr M 0),(2,.ptr (M + 1) 0),(3,.ptr (M + 2) 0),(5,.int .i64 (i : Int)),(6,.ptr hs.length 0),(27,.bool true)],?_,h2,fun j a c d => ?_⟩
  ·have svV:=h.hv.sn
   have svW:=h.hd.sn
   have k1:=h.hw
   have k2:=h.hx
   have k3:=h.hn
   clear h2 fr h hz
   generalize onP F l D x true = o at *
   generalize rdX G T pc qc fv = X at *
   rw [Zvj]
   simp only [zA,zB,wkA,wkB] at *
   repeat' (first | simp only [seval,exC,ZaL,sXB,svV,svW,k1,k2,k3,s1,hx1,cy,hX,hz',Zzb,gaB] | simp (disch:=omega) only [dxB])
  ·rw [fr j (by rw [List.length_append]; omega) c d (fun q e => by have:=(h.hb q).2; omega),List.getElem?_append_left (by omega)]
 | succ m ih =>
  intro i x P w0 b hs him hPl wx fx h
  have hi : ¬ (i : Int) = (steps : Int):=by omega
  have s1:=ZHW J hP hO F (z:=z) (y:=y) (last:=false) hl hD wD ht wx fx
  obtain ⟨b',hs2,hX,h2,fr,hlen⟩:=ZrY (G:=G) (T:=T) (fv:=fv) (h.ext (zB (onP F l D x false).1)) (by omega) ((onP F l D x false).2 : Int)
  have hx1:=(h.ext (zB (onP F l D x false).1)).hx
  have cy:=Ztw (G:=G) (T:=T) (rdX G T pc qc fv) h0
  have ll:=h.len
  obtain ⟨l1,l2,l3⟩:=h.lt
  have fr' : ∀ j,j < M→j≠pc→j≠qc→hs2[j]? = hs[j]?:=fun j a c d => by
   rw [fr j (by rw [List.length_append]; omega) c d (fun q e => by have:=(h.hb q).2; omega),List.getElem?_append_left (by omega)]
  have svV:=h.hv.sn
  have svW:=h.hd.sn
  have k1:=h.hw
  have k2:=h.hx
  have k3:=h.hn
  by_cases hz : (onP F l D x false).2 = 0
  ·obtain ⟨wy,fy,_⟩:=ZwL hz
   have w1 : IntKind.i64.wrap ((i : Int) + 1) = ((i + 1 : Nat) : Int):=by rw [Zac (by omega)]; rfl
   have k4 : hs2[hs.length]? = some (zB (onP F l D x false).1):=by
    rw [fr hs.length (by rw [List.length_append]; simp) (by omega) (by omega) (fun q e => by have:=(List.getElem?_eq_some_iff.1 (h.hb q).1).1; omega),List.getElem?_append_right (Nat.le_refl _),Nat.sub_self]; rfl
   have k5:=h2.hx
   obtain ⟨b3,x3,hs3,e3,r1,r2,r3⟩:=ih (i + 1) (onP F l D x false).1 (P ++ [x]) ((onP F l D x false).2 : Int) b' (hs2.set (M + 1) (zB (onP F l D x false).1)) (by omega) (by rw [List.length_append,hPl]; rfl) wy fy (h2.setx _)
   refine ⟨b3,x3,hs3,e3,?_,?_,fun j a c d => ?_⟩
   ·clear r2 r3 h2 fr fr' h ih wy fy
    have hz0 : (((onP F l D x false).2 : Nat) : Int) = 0:=by rw [hz]; rfl
    rw [hz0] at s1 hX
    generalize (onP F l D x false).1 = o at *
    generalize rdX G T pc qc fv = X at *
    rw [← r1,Zvj]
    simp only [zA,zB,wkA,wkB,cast0] at *
    repeat' (first | simp only [seval,exC,ZaL,sXB,svV,svW,k1,k2,k3,k4,k5,s1,hx1,cy,hX,hi,w1,Zzb,gaB] | simp (disch:=omega) only [dxB])
   ·rw [paP,if_pos hz]
    simpa using r2
   ·rw [r3 j a c d,List.getElem?_set_ne (by omega)]; exact fr' j a c d
  ·have hz' : ¬ (((onP F l D x false).2 : Nat) : Int) = 0:=by omega
   refine ⟨b',x,hs2,[(0,.yv),(1,.ptr M 0),(2,.ptr (M + 1) 0),(3,.ptr (M + 2) 0),(5,.int .i64 (i : Int)),(6,.ptr hs.length 0),(27,.bool true)],?_,by rw [paP,if_neg hz]; exact h2,fr'⟩
   clear h2 fr fr' h ih
   generalize onP F l D x false = o at *
   generalize rdX G T pc qc fv = X at *
   rw [Zvj]
   simp only [zA,zB,wkA,wkB] at *
   repeat' (first | simp only [seval,exC,ZaL,sXB,svV,svW,k1,k2,k3,s1,hx1,cy,hX,hi,hz',Zzb,gaB] | simp (disch:=omega) only [dxB])
theorem ZsF (e : Env) (h : Heap) : evL G T Zbg e h = kS G T (evL G T Zbf (keepE [3,6,8,9,13,45,46,47] e) h) Zbg:=Zae G T rfl e h
set_option maxHeartbeats 8000000 in
theorem ZrR (J : Al G T g) (hO : HasO g T) (F : Fm) {V W : AV} {z y : Bool} {l D : List (Nat × Nat)} {n0 pw : Nat} {e3 e6 e8 e9 : AV} (h41 : D.length≤41) (wD : Zws F D) (hpw : pw < n0) : ∀ (m i : Nat) (t : Bool) (hs : List Blk),i + m = D.length→hs[pw]? = some (wkB F V W t)→SL hs n0 pw pw V z l→SL hs n0 pw pw W y D→n0≤hs.length →
  ∃ hs' t',evL G T Zbg [(3,e3),(6,e6),(8,e8),(9,e9),(13,.ptr pw 0),(45,W),(46,.int .i64 (D.length : Int)),(47,.int .i64 (i : Int))] ⟨hs,[]⟩ =
    some (.exit 0,[(3,e3),(6,e6),(8,e8),(9,e9),(13,.ptr pw 0),(45,W),(46,.int .i64 (D.length : Int)),(47,.int .i64 (D.length : Int)),(48,.bool false)],⟨hs',[]⟩) ∧
   hs'[pw]? = some (wkB F V W t')∧(t' = true↔t = true∧Zfs F (D.drop i))∧(∀ j,j < n0→j≠pw→hs'[j]? = hs[j]?)∧n0≤hs'.length
 | 0,i,t,hs,hi,hk,hv,hd,hn => by
  have he : i = D.length:=by omega
  subst he
  have hlt : ¬ (D.length : Int) < (D.length : Int):=by omega
  refine ⟨hs,t,?_,hk,by rw [List.drop_length]; simp [Zvc],fun _ _ _ => rfl,hn⟩
  rw [ZsF]
  repeat' (first | simp only [seval,exC,Zbf,hlt] | simp (disch:=omega) only [dxB])
 | m + 1,i,t,hs,hi,hk,hv,hd,hn => by
  have hil : i < D.length:=by omega
  have hlt : (i : Int) < (D.length : Int):=by omega
  have w1 : IntKind.i64.wrap ((i : Int) + 1) = ((i + 1 : Nat) : Int):=by rw [Zac (by omega)]; rfl
  have wa:=wD _ (Zpu hil)
  obtain ⟨P,io,ro⟩:=hd.at_ (G:=G) hil h41
  have ro:=ro hs fun _ _ _ _ => rfl
  have n1:=ZlQ J hO F (z:=z) (y:=y) (t:=true) (l:=l) (D:=D) wa
  have ex : ∀ j,j < n0→(hs ++ [zB (zc D i)])[j]? = hs[j]?:=fun j hj => List.getElem?_append_left (by omega)
  have hk1 : (hs ++ [zB (zc D i)])[pw]? = some (wkB F V W t):=by rw [ex pw hpw]; exact hk
  have hv1:=hv.mono (hs':=hs ++ [zB (zc D i)]) fun j a _ _ => ex j a
  have hd1:=hd.mono (hs':=hs ++ [zB (zc D i)]) fun j a _ _ => ex j a
  have svV:=hv1.sn
  have svW:=hd1.sn
  have key : ∀ t1,(t1 = true↔t = true∧Zf F (zc D i))→evL G T Zbg [(3,e3),(6,e6),(8,e8),(9,e9),(13,.ptr pw 0),(45,W),(46,.int .i64 (D.length : Int)),(47,.int .i64 (i : Int))] ⟨hs,[]⟩ =
    evL G T Zbg [(3,e3),(6,e6),(8,e8),(9,e9),(13,.ptr pw 0),(45,W),(46,.int .i64 (D.length : Int)),(47,.int .i64 ((i + 1 : Nat) : Int))] ⟨(hs ++ [zB (zc D i)]).set pw (wkB F V W t1),[]⟩:=by
   intro t1 ht1
   cases t with
   | false =>
    have h1 : t1 = false:=by cases t1 <;> simp_all
    subst h1
    clear hv hd hv1 hd1 ex wa n1 ht1
    rw [ZsF]
    generalize zc D i = a at *
    simp only [zB,wkB,wkA,zA] at *
    repeat' (first | simp only [seval,exC,Zbf,hlt,io,ro,hk1,gaB,w1] | simp (disch:=omega) only [dxB])
   | true =>
    by_cases h2 : Zf F (zc D i)
    ·have h1 : t1 = true:=ht1.2 ⟨rfl,h2⟩
     subst h1
     rw [@decide_eq_true _ (Classical.propDecidable _) h2] at n1
     clear hv hd hv1 hd1 ex wa ht1 h2
     rw [ZsF]
     generalize zc D i = a at *
     simp only [zB,wkB,wkA,zA] at *
     repeat' (first | simp only [seval,exC,Zbf,hlt,io,ro,hk1,gaB,svV,svW,n1,ZsC,w1] | simp (disch:=omega) only [dxB])
    ·have h1 : t1 = false:=by cases t1 <;> simp_all
     subst h1
     rw [@decide_eq_false _ (Classical.propDecidable _) h2] at n1
     clear hv hd hv1 hd1 ex wa ht1 h2
     rw [ZsF]
     generalize zc D i = a at *
     simp only [zB,wkB,wkA,zA] at *
     repeat' (first | simp only [seval,exC,Zbf,hlt,io,ro,hk1,gaB,svV,svW,n1,ZsC,w1] | simp (disch:=omega) only [dxB])
  obtain ⟨t1,ht1⟩ : ∃ t1 : Bool,(t1 = true↔t = true∧Zf F (zc D i)):=⟨@decide (t = true∧Zf F (zc D i)) (Classical.propDecidable _),by simp⟩
  have fs : ∀ j,j < n0→j≠pw→((hs ++ [zB (zc D i)]).set pw (wkB F V W t1))[j]? = hs[j]?:=fun j a c => by rw [List.getElem?_set_ne (fun q => c q.symm)]; exact ex j a
  obtain ⟨hs',t',r1,r2,r3,r4,r5⟩:=ZrR J hO F (e3:=e3) (e6:=e6) (e8:=e8) (e9:=e9) h41 wD hpw m (i + 1) t1 ((hs ++ [zB (zc D i)]).set pw (wkB F V W t1)) (by omega) (by rw [List.getElem?_set_self (by rw [List.length_append]; omega)]) (hv.mono fun j a c _ => fs j a c) (hd.mono fun j a c _ => fs j a c) (by rw [List.length_set,List.length_append]; omega)
  refine ⟨hs',t',(key t1 ht1).trans r1,r2,?_,fun j a c => (r4 j a c).trans (fs j a c),r5⟩
  rw [r3,ht1,Zjz hil,Zsi,and_assoc]
theorem Zwv (h : Mem) (k1 k2 k3 k4 : IntKind) (a b c d : Int) (args : List AV) : frz h (.tup [.agg [.int k1 a,.int k2 b,.int k3 c],.int k4 d]) args = []:=by simp [frz,refA,refA.go]
theorem SL.up {hs hs' : List Blk} {V : AV} {z : Bool} {l : List (Nat × Nat)} {n M pc qc : Nat} (h : SL hs n n n V z l) (hM : n≤M) (hp : n≤pc) (hq : n≤qc) (hk : ∀ j,j < n→hs'[j]? = hs[j]?) : SL hs' M pc qc V z l:=by
 rcases h with h | ⟨h,k,w,a,b,c,_,_⟩
 ·exact .inl h
 ·exact .inr ⟨h,k,w,a,(hk k c).trans b,by omega,by omega,by omega⟩
theorem SL.out {F : Fm} {hs : List Blk} {l : List (Nat × Nat)} {b M pc qc : Nat} (h : 1 < l.length→hs[b]? = some ⟨zcells (dE F l),false⟩∧b < M∧b≠pc∧b≠qc) : SL hs M pc qc (outV l.length b) (decide (l.length≤1)) (dE F l):=by
 have hd : (dE F l).length = l.length - 1:=by rw [← ZtK]; exact ZrO F (Nat.le_refl _)
 by_cases h1 : l.length≤1
 ·rw [decide_eq_true h1,ZyD F h1]
  exact .inl (by rw [outV,if_pos h1]; rfl)
 ·obtain ⟨a,c,d,e⟩:=h (by omega)
  refine .inr ⟨by rw [decide_eq_false h1],b,[],?_,by rw [List.append_nil]; exact a,c,d,e⟩
  rw [outV,if_neg h1,hd]
theorem dE_w (F : Fm) (l : List (Nat × Nat)) : Zws F (dE F l):=ZGT F 1 _
theorem ZDi (F : Fm) (l : List (Nat × Nat)) : (dE F l).length = l.length - 1:=by rw [← ZtK]; exact ZrO F (Nat.le_refl _)
set_option maxHeartbeats 32000000 in
theorem Zur (J : Al G T g) (hP : HasK g T) (hO : HasO g T) (h0 : T 0 = none) (F : Fm) {V : AV} {z : Bool} {l : List (Nat × Nat)} {p : Nat × Nat} {steps : Nat} {bs : List Blk} (hl : Pg F l) (wp : Zw F p) (fp : Zf F p) (hst : steps≤100) (hV : SL bs bs.length bs.length bs.length V z l) :
  ∃ b' bs',kJ G Zaq.res (evL G T Zaq.body [(0,.int .u8 F.u),(1,V),(2,zA p.1 p.2),(3,.int .i64 (steps : Int))] ⟨bs,[]⟩) =
    some (.tup [outV ((paP F l (dE F l) steps p).1.length + 1) b',.int .i64 ((paP F l (dE F l) steps p).2 : Int),.int .i64 0],⟨bs',[]⟩) ∧
   (∀ j,j < bs.length→bs'[j]? = bs[j]?)∧bs'[b']? = some ⟨zcells (paP F l (dE F l) steps p).1,false⟩∧bs.length≤b':=by
 have e1:=Ziq J hP F (z:=z) (Pg.w64 hl.w) (ZaP wp.1) (ZaP wp.2) (ZnZ hl.len ⟨hl.w,wp⟩ ⟨hl.f,fp⟩) hl.len hl.w wp
 rw [show ((p.1,p.2) : Nat × Nat) = p from rfl] at e1
 have hDl:=ZDi F l
 have h41:=hl.len
 have ex : ∀ L j,j < bs.length→(bs ++ L)[j]? = bs[j]?:=fun L j hj => List.getElem?_append_left hj
 have sv1:=(hV.up (hs':=bs ++ [zB p,⟨[.nil],false⟩,⟨[.int .i64 0],false⟩]) (M:=bs.length) (pc:=bs.length) (qc:=bs.length) (Nat.le_refl _) (Nat.le_refl _) (Nat.le_refl _) (ex _)).sn
 have okV:=hV.okc
 have caV:=hV.ca
 -- the derivative
 obtain ⟨b1,hs1,dv,hn1,hf1,hb1⟩:=Zvt J hP F (V:=V) (z:=z) (bs:=bs ++ [zB p,⟨[.nil],false⟩,⟨[.int .i64 0],false⟩,⟨[.int .u64 ((evE F p l).1.1 : Int),.int .u64 ((evE F p l).1.2 : Int),.int .u64 ((evE F p l).2 : Int)],false⟩,⟨[.int .u8 F.u,V,.nil,.bool true],false⟩]) hl (hV.up (by rw [List.length_append]; omega) (by rw [List.length_append]; omega) (by rw [List.length_append]; omega) (ex _))
 have hlen1 : ∀ (a b c d e : Blk),(bs ++ [a,b,c,d,e]).length = bs.length + 5:=fun a b c d e => by rw [List.length_append]; rfl
 rw [hlen1] at hn1 hf1 hb1
 have hf1' : ∀ j,j < bs.length→hs1[j]? = bs[j]?:=fun j hj => (hf1 j (by omega)).trans (ex _ j hj)
 have q0 : hs1[bs.length]? = some (zB p):=by rw [hf1 _ (by omega),ga0]; rfl
 have q1 : hs1[bs.length + 1]? = some ⟨[.nil],false⟩:=by rw [hf1 _ (by omega),ga1]; rfl
 have q2 : hs1[bs.length + 2]? = some ⟨[.int .i64 0],false⟩:=by rw [hf1 _ (by omega),ga2]; rfl
 have q4 : hs1[bs.length + 4]? = some ⟨[.int .u8 F.u,V,.nil,.bool true],false⟩:=by rw [hf1 _ (by omega),ga4]; rfl
 -- is it level
 have hb1' : 1 < l.length→b1 < hs1.length:=fun q => (List.getElem?_eq_some_iff.1 (hb1 q).1).1
 have fset : ∀ v j,j≠bs.length + 4→(hs1.set (bs.length + 4) v)[j]? = hs1[j]?:=fun v j hj => List.getElem?_set_ne (fun q => hj q.symm)
 obtain ⟨hs3,t',lv,k1,k2,k3,k4⟩:=ZrR J hO F (V:=V) (W:=outV l.length b1) (z:=z) (y:=decide (l.length≤1)) (l:=l) (D:=dE F l) (n0:=hs1.length) (pw:=bs.length + 4) (e3:=.int .i64 (steps : Int)) (e6:=.ptr bs.length 0) (e8:=.ptr (bs.length + 1) 0) (e9:=.ptr (bs.length + 2) 0) (by omega) (dE_w F l) (by omega) (dE F l).length 0 true (hs1.set (bs.length + 4) (wkB F V (outV l.length b1) true)) (by omega) (by rw [List.getElem?_set_self (by omega)]) (hV.up (by omega) (by omega) (by omega) fun j hj => (fset _ j (by omega)).trans (hf1' j hj)) (SL.out fun q => ⟨by rw [fset _ _ (by have:=(hb1 q).2; omega)]; exact (hb1 q).1,hb1' q,by have:=(hb1 q).2; omega,by have:=(hb1 q).2; omega⟩) (by rw [List.length_set]; exact Nat.le_refl _)
 have ht : t' = true↔Zfs F (dE F l):=by rw [k2]; simp
 have k3' : ∀ j,j < hs1.length→j≠bs.length + 4→hs3[j]? = hs1[j]?:=fun j a c => (k3 j a c).trans (fset _ j c)
 have p0 : hs3[bs.length]? = some (zB p):=by rw [k3' _ (by omega) (by omega)]; exact q0
 -- the loop
 have x3 : ∀ L j,j < hs3.length→(hs3 ++ L)[j]? = hs3[j]?:=fun L j hj => List.getElem?_append_left hj
 have pm : PM F hs3.length (bs.length + 1) (bs.length + 2) (hs3 ++ [wkB F V (outV l.length b1) t',zB p,⟨[.int .i64 (steps : Int)],false⟩]) V (outV l.length b1) z (decide (l.length≤1)) l (dE F l) t' p steps [] 0 0:=by
  refine ⟨by rw [ga0]; rfl,by rw [ga1]; rfl,by rw [ga2]; rfl,?_,?_,fun q => absurd q (by simp),?_,?_,⟨by omega,by omega,by omega⟩,by rw [List.length_append]; exact Nat.le_refl _⟩
  ·rw [x3 _ _ (by omega),k3' _ (by omega) (by omega)]; exact q1
  ·rw [x3 _ _ (by omega),k3' _ (by omega) (by omega)]; exact q2
  ·exact hV.up (by omega) (by omega) (by omega) fun j hj => by rw [x3 _ _ (by omega),k3' _ (by omega) (by omega)]; exact hf1' j hj
  ·exact SL.out fun q => ⟨by rw [x3 _ _ (by have:=hb1' q; omega),k3' _ (hb1' q) (by have:=(hb1 q).2; omega)]; exact (hb1 q).1,by have:=hb1' q; omega,by have:=(hb1 q).2; omega,by have:=(hb1 q).2; omega⟩
 obtain ⟨b',x',hs',e',fl,pm',fr⟩:=ZyY J hP hO h0 F (fv:=.fn 395 [.ptr hs3.length 0,.ptr (hs3.length + 1) 0,.ptr (hs3.length + 2) 0]) hst hl (by omega) (dE_w F l) ht steps 0 p [] 0 0 _ (by omega) rfl wp fp pm
 rw [List.nil_append] at pm'
 have hR:=ZsU (F:=F) (l:=l) (D:=dE F l) steps p
 have hRl : 0 < (paP F l (dE F l) steps p).1.length:=List.length_pos_iff.2 hR.1
 obtain ⟨m1,m2⟩:=pm'.hb (by omega)
 have r1:=pm'.hp
 have r2:=pm'.hq
 have hln:=pm'.len
 have fin : ∀ u v j,j≠bs.length + 1→j≠bs.length + 2→((hs'.set (bs.length + 1) u).set (bs.length + 2) v)[j]? = hs'[j]?:=fun u v j a c => by rw [List.getElem?_set_ne (fun q => c q.symm),List.getElem?_set_ne (fun q => a q.symm)]
 refine ⟨b',(hs'.set (bs.length + 1) ⟨[outV ((paP F l (dE F l) steps p).1.length + 1) b'],false⟩).set (bs.length + 2) ⟨[.int .i64 ((paP F l (dE F l) steps p).2 : Int)],false⟩,?_,fun j hj => ?_,?_,?_⟩
 ·have g1 : ∀ v,(hs'.set (bs.length + 1) v)[bs.length + 2]? = some ⟨[.int .i64 ((paP F l (dE F l) steps p).2 : Int)],false⟩:=fun v => by rw [List.getElem?_set_ne (by omega)]; exact r2
  have g2 : ∀ u v,((hs'.set (bs.length + 1) u).set (bs.length + 2) v)[bs.length + 1]? = some u:=fun u v => by rw [List.getElem?_set_ne (by omega),List.getElem?_set_self (by omega)]
  have g3 : ∀ u v,((hs'.set (bs.length + 1) u).set (bs.length + 2) v)[bs.length + 2]? = some v:=fun u v => by rw [List.getElem?_set_self (by rw [List.length_set]; omega)]
  have n1:=ZsS l.length b1
  have n2:=Zwe l.length b1
  have n3:=ZsS ((paP F l (dE F l) steps p).1.length + 1) b'
  have n4:=Zwe ((paP F l (dE F l) steps p).1.length + 1) b'
  have n5:=(SL.out (F:=F) (hs:=hs1) (l:=l) (b:=b1) (M:=hs1.length) (pc:=bs.length + 4) (qc:=bs.length + 4) fun q => ⟨(hb1 q).1,hb1' q,by have:=(hb1 q).2; omega,by have:=(hb1 q).2; omega⟩).len
  have c1:=Zjn G T hP.poly_Deriv
  have c2:=Zjn G T hO.polish_walk_from
  have c3:=ZHt (G:=G) hO.polish_walk_from_1 rfl
  have q5 : ∀ v,(hs1.set (bs.length + 4) v)[bs.length + 4]? = some v:=fun v => by rw [List.getElem?_set_self (by omega)]
  have s100 : ¬ ((steps : Int) > 100):=by omega
  have s0 : ¬ ((steps : Int) < 0):=by omega
  unfold rdX at fl
  clear pm pm' fr hV hf1 hf1' hb1 hb1' k2 k3 k3' fset ex x3 fin m1 m2 hR ht q0 q1 q2 wp fp hl hRl hDl h41 hln k4 hn1
  generalize outV ((paP F l (dE F l) steps p).1.length + 1) b' = o2 at *
  generalize (paP F l (dE F l) steps p).2 = why at *
  generalize outV l.length b1 = W at *
  generalize dE F l = D at *
  generalize evE F p l = E at *
  simp only [zA,zB,wkA,wkB,vlA,cast0] at *
  repeat' (first | simp only [seval,exC,Zaq,ZcX,Zcc,numE,Nat.zero_add,gaB,sXB,ZCr,ZHm,c1,c2,c3,ZtH,sv1,okV,caV,e1,Zwv,ZsD,dv,q4,q5,n1,n2,n3,n4,n5,lv,k1,p0,fl,r1,r2,g1,g2,g3,s100,s0] | simp (disch:=omega) only [dxB])
 ·rw [fin _ _ j (by omega) (by omega),fr j (by omega) (by omega) (by omega),x3 _ _ (by omega),k3' _ (by omega) (by omega)]
  exact hf1' j hj
 ·rw [fin _ _ _ (by omega) (by omega)]; exact m1
 ·omega
theorem ZsY (J : Al G T g) (hP : HasK g T) (hO : HasO g T) {f e steps : Int} {V : AV} {z : Bool} {l : List (Nat × Nat)} {p : Nat × Nat} {bs : List Blk} (he : e≠0) (ho : run G T 375 [.int .u8 f,ZL z l,zA p.1 p.2] = some (.int .i64 e)) (hV : SL bs bs.length bs.length bs.length V z l) :
  ∃ bs',kJ G Zaq.res (evL G T Zaq.body [(0,.int .u8 f),(1,V),(2,zA p.1 p.2),(3,.int .i64 steps)] ⟨bs,[]⟩) = some (.tup [.nil,.int .i64 0,.int .i64 e],⟨bs',[]⟩)∧∀ j,j < bs.length→bs'[j]? = bs[j]?:=by
 have e1:=ZsZ J hP he ho (fun gg => sn_Z gg z l)
 have ex : ∀ L j,j < bs.length→(bs ++ L)[j]? = bs[j]?:=fun L j hj => List.getElem?_append_left hj
 have sv1:=(hV.up (hs':=bs ++ [zB p,⟨[.nil],false⟩,⟨[.int .i64 0],false⟩]) (M:=bs.length) (pc:=bs.length) (qc:=bs.length) (Nat.le_refl _) (Nat.le_refl _) (Nat.le_refl _) (ex _)).sn
 refine ⟨bs ++ [zB p,⟨[.nil],false⟩,⟨[.int .i64 0],false⟩,⟨[.int .u64 0,.int .u64 0,.int .u64 0],false⟩],?_,ex _⟩
 clear hV ho ex
 simp only [zA,zB,vlA,cast0] at *
 repeat' (first | simp only [seval,exC,Zaq,gaB,sv1,e1,Zwv,he] | simp (disch:=omega) only [dxB])
theorem ZqS (J : Al G T g) (hP : HasK g T) (hO : HasO g T) (F : Fm) {steps : Int} {V : AV} {z : Bool} {l : List (Nat × Nat)} {p : Nat × Nat} {bs : List Blk} (hl : Pg F l) (wp : Zw F p) (fp : Zf F p) (hs : steps < 0∨100 < steps) (hV : SL bs bs.length bs.length bs.length V z l) :
  ∃ bs',kJ G Zaq.res (evL G T Zaq.body [(0,.int .u8 F.u),(1,V),(2,zA p.1 p.2),(3,.int .i64 steps)] ⟨bs,[]⟩) = some (.tup [.nil,.int .i64 0,.int .i64 2],⟨bs',[]⟩)∧∀ j,j < bs.length→bs'[j]? = bs[j]?:=by
 have e1:=Ziq J hP F (z:=z) (Pg.w64 hl.w) (ZaP wp.1) (ZaP wp.2) (ZnZ hl.len ⟨hl.w,wp⟩ ⟨hl.f,fp⟩) hl.len hl.w wp
 rw [show ((p.1,p.2) : Nat × Nat) = p from rfl] at e1
 have ex : ∀ L j,j < bs.length→(bs ++ L)[j]? = bs[j]?:=fun L j hj => List.getElem?_append_left hj
 have sv1:=(hV.up (hs':=bs ++ [zB p,⟨[.nil],false⟩,⟨[.int .i64 0],false⟩]) (M:=bs.length) (pc:=bs.length) (qc:=bs.length) (Nat.le_refl _) (Nat.le_refl _) (Nat.le_refl _) (ex _)).sn
 generalize evE F p l = E at *
 refine ⟨bs ++ [zB p,⟨[.nil],false⟩,⟨[.int .i64 0],false⟩,⟨[.int .u64 (E.1.1 : Int),.int .u64 (E.1.2 : Int),.int .u64 (E.2 : Int)],false⟩],?_,ex _⟩
 clear hV ex hl wp fp
 by_cases h1 : steps < 0
 ·simp only [zA,zB,vlA,cast0] at *
  repeat' (first | simp only [seval,exC,Zaq,gaB,sv1,e1,Zwv,h1] | simp (disch:=omega) only [dxB])
 ·have h2 : steps > 100:=by omega
  simp only [zA,zB,vlA,cast0] at *
  repeat' (first | simp only [seval,exC,Zaq,gaB,sv1,e1,Zwv,h1,h2] | simp (disch:=omega) only [dxB])
theorem Zjl (J : Al G T g) (hO : HasO g T) (F : Fm) {V : (Nat × Nat) × Nat} (hw : Zw F V.1) (hf : Zf F V.1) (hb : V.2 < 2 * F.sg) (h5 : F.cls V.2≠5) :
  run G T 359 [.int .u8 F.u,vlA V.1 V.2] = some (.bool (@decide (hlP F V) (Classical.propDecidable _))):=by
 rw [Zab G T hO.Zjl]
 have z0 : (0 : Nat) < 2 * F.sg:=by cases F <;> decide
 have c1:=Zoo J F hw.1 hw.2 hb z0
 have hd : @decide (hlP F V) (Classical.propDecidable _) = (decide (cmpZ F V.1.1 V.1.2 V.2 0 = 1) || decide (cmpZ F V.1.1 V.1.2 V.2 0 = 2)):=by
  rw [Bool.eq_iff_iff]; simp [ZHb hf h5]
 rw [hd]
 generalize cmpZ F V.1.1 V.1.2 V.2 0 = c at *
 simp only [zA,vlA,cast0] at *
 by_cases h1 : c = 1
 ·subst h1
  repeat' (first | simp only [seval,exC,Zec,c1] | simp (disch:=omega) only [dxB])
 ·repeat' (first | simp only [seval,exC,Zec,c1,h1,decide_false,Bool.false_or] | simp (disch:=omega) only [dxB])
def slO (F : Fm) (D : List (Nat × Nat)) (x : Nat × Nat) : Prop:=Zfs F D∧zcl (F.cls (evE F x D).1.1) (F.cls (evE F x D).1.2) = 2
theorem Znv (J : Al G T g) (hP : HasK g T) (hO : HasO g T) (F : Fm) {z : Bool} {l : List (Nat × Nat)} {x : Nat × Nat} (hl : Pg F l) (wx : Zw F x) (fx : Zf F x) :
  (slO F (dE F l) x∧run G T 397 [.int .u8 F.u,ZL z l,zA x.1 x.2] = some (.tup [zA (evE F x (dE F l)).1.1 (evE F x (dE F l)).1.2,.bool true])) ∨
  (¬ slO F (dE F l) x∧∃ q : Nat × Nat,run G T 397 [.int .u8 F.u,ZL z l,zA x.1 x.2] = some (.tup [zA q.1 q.2,.bool false])):=by
 rw [Zab G T hO.Znv]
 have d1:=Znu J hP F (z:=z) hl.len hl.w
 have wD:=dE_w F l
 have hD : ¬ 41 < (dE F l).length:=by have:=ZDi F l; have:=hl.len; omega
 have o1:=Ziv J hP F (z:=true) (Pg.w64 wD) (ZaP wx.1) (ZaP wx.2)
 rw [show ((x.1,x.2) : Nat × Nat) = x from rfl] at o1
 by_cases h1 : Zfs F (dE F l)
 ·rw [ZnZ hD ⟨wD,wx⟩ ⟨h1,fx⟩] at o1
  have e1:=ZhR J hP F (z:=true) (a:=x.1) (b:=x.2) hD wD wx
  rw [show ((x.1,x.2) : Nat × Nat) = x from rfl] at e1
  have wd:=ZtS x wD
  have c1:=ZbE J F wd.1 wd.2
  unfold slO
  by_cases h2 : zcl (F.cls (evE F x (dE F l)).1.1) (F.cls (evE F x (dE F l)).1.2) = 2
  ·rw [h2] at c1
   refine .inl ⟨⟨h1,h2⟩,?_⟩
   clear h1 h2 wd wD hD
   generalize dE F l = D at *
   generalize evE F x D = E at *
   simp only [zA,vlA,cast0] at *
   repeat' (first | simp only [seval,exC,ZdG,ZB,d1,o1,e1,c1,Zsy] | simp (disch:=omega) only [dxB])
  ·refine .inr ⟨fun q => h2 q.2,(evE F x (dE F l)).1,?_⟩
   have h2' : ¬ zcl (F.cls (evE F x (dE F l)).1.1) (F.cls (evE F x (dE F l)).1.2) = 2:=h2
   generalize zcl (F.cls (evE F x (dE F l)).1.1) (F.cls (evE F x (dE F l)).1.2) = c at *
   clear h1 h2 wd wD hD
   generalize dE F l = D at *
   generalize evE F x D = E at *
   simp only [zA,vlA,cast0] at *
   repeat' (first | simp only [seval,exC,ZdG,ZB,d1,o1,e1,c1,Zsy,h2'] | simp (disch:=omega) only [dxB])
 ·rw [ZnY hD ⟨wD,wx⟩ (fun q => h1 q.1)] at o1
  refine .inr ⟨fun q => h1 q.1,(0,0),?_⟩
  clear h1 wD hD
  generalize dE F l = D at *
  simp only [zA,vlA,cast0] at *
  repeat' (first | simp only [seval,exC,ZdG,ZB,d1,o1] | simp (disch:=omega) only [dxB])
def l28 : List (Nat × Nat):=[(13839561654909534208,0),(0,0),(4607182418800017408,0)]
def x28 : Nat × Nat:=(4607182418800017408,0)
def y28 : Nat × Nat:=(4612811918334230528,0)
theorem D28 : dE .d l28 = [(0,0),(4611686018427387904,0)]:=by decide +kernel
theorem ev28x : evE .d x28 l28 = ((13837309855095848960,0),4379750637617807362):=by
 have z1 : zM .d (4607182418800017408,0) (4607182418800017408,0) = (4607182418800017408,0):=by decide +kernel
 have z2 : zP .d (4607182418800017408,0) (0,0) = (4607182418800017408,0):=by decide +kernel
 have z3 : zP .d (4607182418800017408,0) (13839561654909534208,0) = (13837309855095848960,0):=by decide +kernel
 have n1 : uN .d (4607182418800017408,0) = 4607182418800017408:=uN_k (r:=36893488147419103232) (by decide +kernel)
 have n2 : uN .d (13837309855095848960,0) = 4613937818241073152:=uN_k (r:=110680464442257309696) (by decide +kernel)
 have p1 : pE .d x28 l28 = ((13837309855095848960,0),4379750637617807362):=by
  simp only [x28,l28,pE,stE,z1,z2,z3,n1,n2,Prod.mk.injEq,true_and]
  decide +kernel
 unfold evE bdE
 rw [p1,if_neg (by simp [l28]),if_pos (by decide +kernel)]
theorem ev28d : evE .d x28 [(0,0),(4611686018427387904,0)] = ((4611686018427387904,0),4377498837804122113):=by
 have z1 : zM .d (4611686018427387904,0) (4607182418800017408,0) = (4611686018427387904,0):=by decide +kernel
 have z2 : zP .d (4611686018427387904,0) (0,0) = (4611686018427387904,0):=by decide +kernel
 have n1 : uN .d (4607182418800017408,0) = 4607182418800017408:=uN_k (r:=36893488147419103232) (by decide +kernel)
 have n2 : uN .d (4611686018427387904,0) = 4611686018427387904:=uN_k (r:=36893488147419103232) (by decide +kernel)
 have p1 : pE .d x28 [(0,0),(4611686018427387904,0)] = ((4611686018427387904,0),4377498837804122113):=by
  simp only [x28,pE,stE,z1,z2,n1,n2,Prod.mk.injEq,true_and]
  decide +kernel
 unfold evE bdE
 rw [p1,if_neg (by simp),if_pos (by decide +kernel)]
theorem ev28y : evE .d y28 l28 = ((4612248968380809216,0),4387913411942416386):=by
 have z1 : zM .d (4607182418800017408,0) (4612811918334230528,0) = (4612811918334230528,0):=by decide +kernel
 have z2 : zP .d (4612811918334230528,0) (0,0) = (4612811918334230528,0):=by decide +kernel
 have z4 : zM .d (4612811918334230528,0) (4612811918334230528,0) = (4618722892845154304,0):=by decide +kernel
 have z3 : zP .d (4618722892845154304,0) (13839561654909534208,0) = (4612248968380809216,0):=by decide +kernel
 have n1 : uN .d (4612811918334230528,0) = 4612811918334230528:=uN_k (r:=184467440737095516160) (by decide +kernel)
 have n2 : uN .d (4618722892845154304,0) = 4618722892845154304:=uN_k (r:=922337203685477580800) (by decide +kernel)
 have n3 : uN .d (4612248968380809216,0) = 4612248968380809216:=uN_k (r:=332041393326771929088) (by decide +kernel)
 have p1 : pE .d y28 l28 = ((4612248968380809216,0),4387913411942416386):=by
  simp only [y28,l28,pE,stE,z1,z2,z3,z4,n1,n2,n3,Prod.mk.injEq,true_and]
  decide +kernel
 unfold evE bdE
 rw [p1,if_neg (by simp [l28]),if_pos (by decide +kernel)]
theorem pg28 : Pg .d l28:=by
 refine ⟨by decide,?_,?_⟩ <;> intro a ha <;> simp [l28] at ha <;> rcases ha with rfl | rfl | rfl <;> (constructor <;> decide)
theorem on28x : onP .d l28 [(0,0),(4611686018427387904,0)] x28 false = (y28,0):=by
 have hl : lsZ .d ((((13837309855095848960,0),4379750637617807362) : (Nat × Nat) × Nat).2,0) (((13837309855095848960,0),4379750637617807362) : (Nat × Nat) × Nat).1:=by
  show cmpZ .d 4379750637617807362 0 13837309855095848960 0 = 1
  decide +kernel
 unfold onP
 rw [ev28x,if_neg (not_not_intro ⟨by decide +kernel,by decide +kernel⟩),if_neg (not_not_intro hl),if_neg (by decide)]
 have hq : quZ .d (13837309855095848960,0) (4611686018427387904,0) = (13832806255468478464,0):=by decide +kernel
 have hs : shP .d [(0,0),(4611686018427387904,0)] x28 (13837309855095848960,0) = some (13832806255468478464,0):=by
  unfold shP
  have c1 : Zfs .d [(0,0),(4611686018427387904,0)]:=by
   intro a ha
   simp at ha
   rcases ha with rfl | rfl <;> exact ⟨by decide +kernel,by decide +kernel⟩
  have c2 : zcl (Fm.d.cls (((4611686018427387904,0),4377498837804122113) : (Nat × Nat) × Nat).1.1) (Fm.d.cls (((4611686018427387904,0),4377498837804122113) : (Nat × Nat) × Nat).1.2) = 2:=by decide +kernel
  have c3 : Zf .d ((13832806255468478464,0) : Nat × Nat):=⟨by decide +kernel,by decide +kernel⟩
  rw [ev28d,hq,if_pos ⟨⟨c1,c2⟩,c3⟩]
 have hy : yJ .d x28 (13832806255468478464,0) 0 = y28:=by decide +kernel
 unfold stP
 rw [hs]
 simp only
 have ht : tryP .d l28 x28 (13832806255468478464,0) (13837309855095848960,0) 7 0 = some y28:=by
  have c1 : goodY .d l28 (13837309855095848960,0) y28:=by
   refine ⟨⟨by decide +kernel,by decide +kernel⟩,?_,?_⟩
   ·rw [ev28y]; exact ⟨by decide +kernel,by decide +kernel⟩
   ·rw [ev28y]; show cmpZ .d 4612248968380809216 0 13837309855095848960 0 = 1; decide +kernel
  rw [tryP,hy,if_pos c1]
 rw [ht]
theorem on28y : (onP .d l28 [(0,0),(4611686018427387904,0)] y28 true).2 = 4:=by
 have hl : lsZ .d ((((4612248968380809216,0),4387913411942416386) : (Nat × Nat) × Nat).2,0) (((4612248968380809216,0),4387913411942416386) : (Nat × Nat) × Nat).1:=by
  show cmpZ .d 4387913411942416386 0 4612248968380809216 0 = 1
  decide +kernel
 unfold onP
 rw [ev28y,if_neg (not_not_intro ⟨by decide +kernel,by decide +kernel⟩),if_neg (not_not_intro hl),if_pos rfl]
theorem pa28 : paP .d l28 (dE .d l28) 1 x28 = ([x28,y28],4):=by
 rw [D28,paP,on28x,if_pos rfl]
 simp only [paP,on28y]
theorem ZxO (J : Al G T g) (hP : HasK g T) (hO : HasO g T) (h0 : T 0 = none) (F : Fm) {z : Bool} {l : List (Nat × Nat)} {p : Nat × Nat} {steps : Nat} (hl : Pg F l) (wp : Zw F p) (fp : Zf F p) (hst : steps≤100) :
  run G T 354 [.int .u8 F.u,ZL z l,zA p.1 p.2,.int .i64 (steps : Int)] = some (.tup [ZL false (paP F l (dE F l) steps p).1,.int .i64 ((paP F l (dE F l) steps p).2 : Int),.int .i64 0]):=by
 obtain ⟨b',bs',hk,_,hb,_⟩:=Zur J hP hO h0 F (z:=z) (p:=p) (steps:=steps) (bs:=[]) hl wp fp hst (.inl rfl)
 refine ZzW hO.polish_Polish (h:=⟨bs',[]⟩) (by simpa [numE,Heap.nil] using hk) ?_
 have hn : 0 < (paP F l (dE F l) steps p).1.length:=List.length_pos_iff.2 (ZsU steps p).1
 have sg:=sg_Z (d:=2) (ZoQ (bs:=bs') (f:=[]) (k:=b') (w:=[]) (by rw [List.append_nil]; exact hb))
 rw [outV,if_neg (by omega),Nat.add_sub_cancel]
 generalize (paP F l (dE F l) steps p).1 = R at *
 generalize (paP F l (dE F l) steps p).2 = w at *
 clear hk hb hn
 simp only [ZAh,ZDD,Znx,Zxe,ZuK,Zrl,sg,Zga,Option.map_some]
theorem ZJC (a b c d : AV) (k : IntKind) : iaddrV 2 (.imm 2 [a,b,c,d]) (.int k 1) = some (.iptr [a,b,c,d] 2):=rfl
theorem ZHY (m : Mem) (a b c d : AV) : rdAt G m 2 (.iptr [a,b,c,d] 2) = some [c,d]:=rfl
theorem Znj (J : Al G T g) (hP : HasK g T) (hO : HasO g T) (h0 : T 0 = none) : run G T 357 [] = some (.bool true):=by
 rw [Zab G T hO.Znj]
 have f1 : run G T 386 [] = some (ZL false l28):=by
  rw [Zab G T hO.law28_four]
  repeat' (first|simp (maxSteps:=9^7) only [seval,exC,ZiC,Zsd,ZzN]|simp (maxSteps:=9^7) (disch:=first|with_reducible assumption|omega) only [dxB]|(simp only [kdB];split)|(simp only [kvB];split))
  all_goals rfl
 have p1:=ZxO J hP hO h0 .d (z:=false) (steps:=1) (p:=x28) pg28 (by constructor <;> decide) ⟨by decide +kernel,by decide +kernel⟩ (by decide)
 rw [pa28] at p1
 have p2 : run G T 354 [.int .u8 2,.imm 3 [.int .u64 13839561654909534208,.int .u64 0,.int .u64 0,.int .u64 0,.int .u64 4607182418800017408,.int .u64 0],.agg [.int .u64 4607182418800017408,.int .u64 0],.int .i64 1] = some (.tup [.imm 2 [.int .u64 4607182418800017408,.int .u64 0,.int .u64 4612811918334230528,.int .u64 0],.int .i64 4,.int .i64 0]):=p1
 have f2 : run G T 386 [] = some (.imm 3 [.int .u64 13839561654909534208,.int .u64 0,.int .u64 0,.int .u64 0,.int .u64 4607182418800017408,.int .u64 0]):=f1
 clear p1 f1
 repeat' (first|simp (maxSteps:=9^7) only [seval,exC,Zho,f2,p2,ZJC,ZHY,ZDF,ZIX ]|simp (maxSteps:=9^7) (disch:=first|with_reducible assumption|omega) only [dxB,decide]|(simp only [kdB];split)|(simp only [kvB];split))
theorem ZtA (F : Fm) (p : Nat × Nat) : @decide (F.fin p.1∧F.fin p.2) instDecidableAnd = @decide (Zf F p) (Classical.propDecidable _):=decide_eq_decide.2 Iff.rfl
theorem Zod (e : Env) (h : Heap) : evL G T Zay e h = kS G T (evL G T ZbC (keepE [0,1,6,7,8,12,13] e) h) Zay:=Zae G T rfl e h
set_option maxHeartbeats 16000000 in
theorem ZlY (J : Al G T g) (hP : HasK g T) (hO : HasO g T) (F : Fm) {z : Bool} {l : List (Nat × Nat)} {x s v q : Nat × Nat} {B : Blk} (hl : Pg F l) (wx : Zw F x) (ws : Zw F s) (wv : Zw F v) : ∀ (m j : Nat) (bs : List Blk),j + m = 7 →
  (∃ r bs',tryP F l x s v m j = some r∧evL G T Zay [(0,.int .u8 F.u),(1,ZL z l),(6,.ptr 0 0),(7,.ptr 1 0),(8,.ptr 2 0),(12,.ptr 4 0),(13,.int .i64 (j : Int))] ⟨zB x :: zB v :: zB q :: B :: zB s :: bs,[]⟩ =
   some (.ret,[(8,.ptr 2 0),(9,.int .i64 0)],⟨zB x :: zB v :: zB r :: B :: zB s :: bs',[]⟩)) ∨
  (∃ bs',tryP F l x s v m j = none∧evL G T Zay [(0,.int .u8 F.u),(1,ZL z l),(6,.ptr 0 0),(7,.ptr 1 0),(8,.ptr 2 0),(12,.ptr 4 0),(13,.int .i64 (j : Int))] ⟨zB x :: zB v :: zB q :: B :: zB s :: bs,[]⟩ =
   some (.exit 0,[(0,.int .u8 F.u),(1,ZL z l),(6,.ptr 0 0),(7,.ptr 1 0),(8,.ptr 2 0),(12,.ptr 4 0),(13,.int .i64 7),(41,.bool false)],⟨zB x :: zB v :: zB q :: B :: zB s :: bs',[]⟩))
 | 0,j,bs,hj => by
  have : j = 7:=by omega
  subst this
  refine .inr ⟨bs,rfl,?_⟩
  rw [Zod,show ((7 : Nat) : Int) = 7 from rfl]
  repeat' (first | simp only [seval,exC,ZbC] | simp (disch:=omega) only [dxB])
 | m + 1,j,bs,hj => by
  have hlt : (j : Int)≤6:=by omega
  have w1 : IntKind.i64.wrap ((j : Int) + 1) = ((j + 1 : Nat) : Int):=by rw [Zac (by omega)]; rfl
  have w2 : IntKind.i64.wrap (0 - (j : Int)) = -(j : Int):=by rw [Zac (by omega)]; omega
  have p1:=Ziu J hP F (md:=1) (by decide) ws.1 (n := -(j : Int)) (by omega)
  have p2:=Ziu J hP F (md:=1) (by decide) ws.2 (n := -(j : Int)) (by omega)
  have wh:=ZHa ws j
  have d1:=Zre J F (md:=1) (by decide) wx.1 wx.2 wh.1 wh.2
  have wy:=yJ_w (F:=F) x s j
  have n1:=ZaC J F wy.1 wy.2
  rw [ZtA] at n1
  have eY : yJ F x s j = ((subW F 1 x.1 (haZ F s j).1).1,(subW F 1 x.2 (haZ F s j).2).1):=rfl
  have eH : haZ F s j = ((scaW F 1 s.1 (-(j : Int))).1,(scaW F 1 s.2 (-(j : Int))).1):=rfl
  have p1e : scaW F 1 s.1 (-(j : Int)) = ((haZ F s j).1,(scaW F 1 s.1 (-(j : Int))).2):=rfl
  have p2e : scaW F 1 s.2 (-(j : Int)) = ((haZ F s j).2,(scaW F 1 s.2 (-(j : Int))).2):=rfl
  rw [p1e] at p1
  rw [p2e] at p2
  clear p1e p2e eH
  generalize (scaW F 1 s.1 (-(j : Int))).2 = g1 at *
  generalize (scaW F 1 s.2 (-(j : Int))).2 = g2 at *
  rw [tryP]
  have ih:=fun bs => ZlY J hP hO F (z:=z) (q:=q) (B:=B) hl wx ws wv m (j + 1) bs (by omega)
  by_cases h1 : Zf F (yJ F x s j)
  ·have e1:=ZhR J hP F (z:=z) (a:=(yJ F x s j).1) (b:=(yJ F x s j).2) hl.len hl.w wy
   rw [show (((yJ F x s j).1,(yJ F x s j).2) : Nat × Nat) = yJ F x s j from rfl] at e1
   have wu:=ZtS (yJ F x s j) hl.w
   have n2:=ZaC J F wu.1 wu.2
   rw [ZtA] at n2
   have k1:=Zoo J F wu.1 wu.2 wv.1 wv.2
   rw [@decide_eq_true _ (Classical.propDecidable _) h1] at n1
   by_cases h2 : Zf F (evE F (yJ F x s j) l).1
   ·rw [@decide_eq_true _ (Classical.propDecidable _) h2] at n2
    by_cases h3 : lsZ F (evE F (yJ F x s j) l).1 v
    ·have hg : goodY F l v (yJ F x s j):=⟨h1,h2,h3⟩
     have h3' : cmpZ F (evE F (yJ F x s j) l).1.1 (evE F (yJ F x s j) l).1.2 v.1 v.2 = 1:=h3
     rw [h3'] at k1
     rw [if_pos hg]
     clear wu wy hg h1 h2 h3 h3' ih
     generalize evE F (yJ F x s j) l = V at *
     rw [eY] at n1 e1 ⊢
     clear eY
     generalize haZ F s j = hz at *
     generalize subW F 1 x.1 hz.1 = A at *
     generalize subW F 1 x.2 hz.2 = C at *
     refine .inl ⟨(A.1,C.1),bs ++ [⟨[.int .u64 (A.1 : Int),.int .u64 (C.1 : Int)],false⟩,zB V.1],rfl,?_⟩
     rw [Zod]
     simp only [zA,zB,zrA,vlA] at *
     repeat' (first | simp only [seval,exC,ZbC,hlt,p1,p2,d1,n1,e1,n2,k1,Zsy,ZtV,gaB,ZB,w1,w2] | simp (disch:=omega) only [dxB])
    ·have h3' : ¬ cmpZ F (evE F (yJ F x s j) l).1.1 (evE F (yJ F x s j) l).1.2 v.1 v.2 = 1:=h3
     generalize cmpZ F (evE F (yJ F x s j) l).1.1 (evE F (yJ F x s j) l).1.2 v.1 v.2 = cc at *
     rw [if_neg (fun r : goodY F l v (yJ F x s j) => h3 r.2.2)]
     clear wu wy h1 h2 h3
     generalize evE F (yJ F x s j) l = V at *
     rw [eY] at n1 e1
     clear eY
     generalize haZ F s j = hz at *
     generalize subW F 1 x.1 hz.1 = A at *
     generalize subW F 1 x.2 hz.2 = C at *
     have ih:=ih (bs ++ [⟨[.int .u64 (A.1 : Int),.int .u64 (C.1 : Int)],false⟩,zB V.1])
     have st : evL G T Zay [(0,.int .u8 F.u),(1,ZL z l),(6,.ptr 0 0),(7,.ptr 1 0),(8,.ptr 2 0),(12,.ptr 4 0),(13,.int .i64 (j : Int))] ⟨zB x :: zB v :: zB q :: B :: zB s :: bs,[]⟩ = evL G T Zay [(0,.int .u8 F.u),(1,ZL z l),(6,.ptr 0 0),(7,.ptr 1 0),(8,.ptr 2 0),(12,.ptr 4 0),(13,.int .i64 ((j + 1 : Nat) : Int))] ⟨zB x :: zB v :: zB q :: B :: zB s :: (bs ++ [⟨[.int .u64 (A.1 : Int),.int .u64 (C.1 : Int)],false⟩,zB V.1]),[]⟩:=by
      clear ih
      rw [Zod]
      simp only [zA,zB,zrA,vlA] at *
      repeat' (first | simp only [seval,exC,ZbC,hlt,p1,p2,d1,n1,e1,n2,k1,h3',Zsy,ZtV,gaB,ZB,w1,w2] | simp (disch:=omega) only [dxB])
     rw [st]; exact ih
   ·rw [@decide_eq_false _ (Classical.propDecidable _) h2] at n2
    rw [if_neg (fun r : goodY F l v (yJ F x s j) => h2 r.2.1)]
    clear wu wy h1 h2 k1
    generalize evE F (yJ F x s j) l = V at *
    rw [eY] at n1 e1
    clear eY
    generalize haZ F s j = hz at *
    generalize subW F 1 x.1 hz.1 = A at *
    generalize subW F 1 x.2 hz.2 = C at *
    have ih:=ih (bs ++ [⟨[.int .u64 (A.1 : Int),.int .u64 (C.1 : Int)],false⟩,zB V.1])
    have st : evL G T Zay [(0,.int .u8 F.u),(1,ZL z l),(6,.ptr 0 0),(7,.ptr 1 0),(8,.ptr 2 0),(12,.ptr 4 0),(13,.int .i64 (j : Int))] ⟨zB x :: zB v :: zB q :: B :: zB s :: bs,[]⟩ = evL G T Zay [(0,.int .u8 F.u),(1,ZL z l),(6,.ptr 0 0),(7,.ptr 1 0),(8,.ptr 2 0),(12,.ptr 4 0),(13,.int .i64 ((j + 1 : Nat) : Int))] ⟨zB x :: zB v :: zB q :: B :: zB s :: (bs ++ [⟨[.int .u64 (A.1 : Int),.int .u64 (C.1 : Int)],false⟩,zB V.1]),[]⟩:=by
     clear ih
     rw [Zod]
     simp only [zA,zB,zrA,vlA] at *
     repeat' (first | simp only [seval,exC,ZbC,hlt,p1,p2,d1,n1,e1,n2,Zsy,ZtV,gaB,ZB,w1,w2] | simp (disch:=omega) only [dxB])
    rw [st]; exact ih
  ·rw [@decide_eq_false _ (Classical.propDecidable _) h1] at n1
   rw [if_neg (fun r : goodY F l v (yJ F x s j) => h1 r.1)]
   clear wy h1
   rw [eY] at n1
   clear eY
   generalize haZ F s j = hz at *
   generalize subW F 1 x.1 hz.1 = A at *
   generalize subW F 1 x.2 hz.2 = C at *
   have ih:=ih (bs ++ [⟨[.int .u64 (A.1 : Int),.int .u64 (C.1 : Int)],false⟩])
   have st : evL G T Zay [(0,.int .u8 F.u),(1,ZL z l),(6,.ptr 0 0),(7,.ptr 1 0),(8,.ptr 2 0),(12,.ptr 4 0),(13,.int .i64 (j : Int))] ⟨zB x :: zB v :: zB q :: B :: zB s :: bs,[]⟩ = evL G T Zay [(0,.int .u8 F.u),(1,ZL z l),(6,.ptr 0 0),(7,.ptr 1 0),(8,.ptr 2 0),(12,.ptr 4 0),(13,.int .i64 ((j + 1 : Nat) : Int))] ⟨zB x :: zB v :: zB q :: B :: zB s :: (bs ++ [⟨[.int .u64 (A.1 : Int),.int .u64 (C.1 : Int)],false⟩]),[]⟩:=by
    clear ih
    rw [Zod]
    simp only [zA,zB,zrA,vlA] at *
    repeat' (first | simp only [seval,exC,ZbC,hlt,p1,p2,d1,n1,Zsy,ZtV,gaB,ZB,w1,w2] | simp (disch:=omega) only [dxB])
   rw [st]; exact ih
theorem Zpa (J : Al G T g) (hP : HasK g T) (hO : HasO g T) (F : Fm) {z : Bool} {l : List (Nat × Nat)} {x v : Nat × Nat} (hl : Pg F l) (wx : Zw F x) (fx : Zf F x) (wv : Zw F v) (fv : Zf F v) :
  run G T 387 [.int .u8 F.u,ZL z l,zA x.1 x.2,zA v.1 v.2] = some (.tup [zA (stP F l (dE F l) x v).1.1 (stP F l (dE F l) x v).1.2,.int .i64 ((stP F l (dE F l) x v).2 : Int)]):=by
 rw [Zab G T hO.Zpa]
 unfold stP shP
 have wd:=ZtS (F:=F) x (dE_w F l)
 rcases Znv J hP hO F (z:=z) hl wx fx with ⟨h1,s1⟩ | ⟨h1,q,s1⟩
 ·have wq:=ZHX fv wd h1.2
  have d1:=Zrc J F (md:=1) (by decide) wv.1 wv.2 wd.1 wd.2
  rw [ZyF F v (evE F x (dE F l)).1] at d1
  have n1:=ZaC J F wq.1 wq.2
  rw [ZtA] at n1
  generalize (divZ F 1 v.1 v.2 (evE F x (dE F l)).1.1 (evE F x (dE F l)).1.2).1.2 = g1 at *
  generalize (divZ F 1 v.1 v.2 (evE F x (dE F l)).1.1 (evE F x (dE F l)).1.2).2.2 = g2 at *
  generalize quZ F v (evE F x (dE F l)).1 = s at *
  by_cases h3 : Zf F s
  ·rw [if_pos ⟨h1,h3⟩]
   rw [@decide_eq_true _ (Classical.propDecidable _) h3] at n1
   simp only
   rcases ZlY J hP hO F (z:=z) (q:=(0,0)) (B:=zB (evE F x (dE F l)).1) hl wx wq wv 7 0 [] (by omega) with ⟨r,bs',h2,lp⟩ | ⟨bs',h2,lp⟩
   ·rw [h2]
    clear h1 wd h2 h3
    generalize evE F x (dE F l) = E at *
    simp only [zA,zB,zrA,cast0] at *
    repeat' (first | simp only [seval,exC,Zds,ZB,s1,d1,n1,ZtV,lp] | simp (disch:=omega) only [dxB])
   ·rw [h2]
    clear h1 wd h2 h3
    generalize evE F x (dE F l) = E at *
    simp only [zA,zB,zrA,cast0] at *
    repeat' (first | simp only [seval,exC,Zds,ZB,s1,d1,n1,ZtV,lp] | simp (disch:=omega) only [dxB])
  ·rw [if_neg (fun r => h3 r.2)]
   rw [@decide_eq_false _ (Classical.propDecidable _) h3] at n1
   simp only
   clear h1 wd h3
   generalize evE F x (dE F l) = E at *
   simp only [zA,zB,zrA,cast0] at *
   repeat' (first | simp only [seval,exC,Zds,ZB,s1,d1,n1,ZtV] | simp (disch:=omega) only [dxB])
 ·rw [if_neg (fun r => h1 r.1)]
  simp only
  clear h1 wd
  simp only [zA,zB,zrA,cast0] at *
  repeat' (first | simp only [seval,exC,Zds,ZB,s1] | simp (disch:=omega) only [dxB])
theorem Zzy {F : Fm} {l D : List (Nat × Nat)} {x : Nat × Nat} {b : Bool} (h : ¬ Zf F (evE F x l).1) : onP F l D x b = (x,2):=by unfold onP; rw [if_pos h]
theorem ZwK {F : Fm} {l D : List (Nat × Nat)} {x : Nat × Nat} {b : Bool} (h : hlP F (evE F x l)) : onP F l D x b = (x,1):=by unfold onP; rw [if_neg (not_not_intro h.1),if_pos h.2]
theorem ZBY {F : Fm} {l D : List (Nat × Nat)} {x : Nat × Nat} (h : Zf F (evE F x l).1) (k : ¬ hlP F (evE F x l)) : onP F l D x true = (x,4):=by
 have k2 : lsZ F ((evE F x l).2,0) (evE F x l).1:=Classical.not_not.1 fun q => k ⟨h,q⟩
 unfold onP; rw [if_neg (not_not_intro h),if_neg (not_not_intro k2),if_pos rfl]
theorem ZBZ {F : Fm} {l D : List (Nat × Nat)} {x : Nat × Nat} (h : Zf F (evE F x l).1) (k : ¬ hlP F (evE F x l)) : onP F l D x false = stP F l D x (evE F x l).1:=by
 have k2 : lsZ F ((evE F x l).2,0) (evE F x l).1:=Classical.not_not.1 fun q => k ⟨h,q⟩
 unfold onP; rw [if_neg (not_not_intro h),if_neg (not_not_intro k2),if_neg (by decide)]
theorem ZAE (Q : List (Nat × Nat)) (x : Nat × Nat) : zc (Q ++ [x]) Q.length = x:=by
 unfold zc; rw [List.getD_eq_getElem?_getD,List.getElem?_append_right (Nat.le_refl _),Nat.sub_self]; rfl
theorem Zla (e : Env) (h : Heap) : evL G T ZdF e h = kS G T (evL G T Zaz (keepE [0,1,3,10] e) h) ZdF:=Zae G T rfl e h
set_option maxHeartbeats 16000000 in
theorem ZoZ (J : Al G T g) (hP : HasK g T) (hO : HasO g T) (F : Fm) {z : Bool} {l : List (Nat × Nat)} {steps : Nat} (hst : steps≤100) (hl : Pg F l) : ∀ (m : Nat) (Q : List (Nat × Nat)) (x : Nat × Nat) (b : Nat) (hs : List Blk),Q.length + m = steps→Zw F x→Zf F x→hs[b]? = some ⟨zcells (Q ++ [x]),false⟩ →
  ∃ b' hs',evL G T ZdF [(0,.int .u8 F.u),(1,ZL z l),(3,.int .i64 (steps : Int)),(10,.own b 0 (Q.length + 1) 2)] ⟨hs,[]⟩ =
   some (.ret,[(8,.own b' 0 (Q ++ (paP F l (dE F l) m x).1).length 2),(9,.int .i64 ((paP F l (dE F l) m x).2 : Int))],⟨hs',[]⟩)∧hs'[b']? = some ⟨zcells (Q ++ (paP F l (dE F l) m x).1),false⟩:=by
 intro m
 induction m with
 | zero =>
  intro Q x b hs hm wx fx hb
  have e1:=ZhR J hP F (z:=z) (a:=x.1) (b:=x.2) hl.len hl.w wx
  rw [show ((x.1,x.2) : Nat × Nat) = x from rfl] at e1
  have wv:=ZtS x hl.w
  have bv:=ZEu x hl.w
  have n1:=ZaC J F wv.1 wv.2
  rw [ZtA] at n1
  have w1 : IntKind.i64.wrap (((Q.length + 1 : Nat) : Int) - 1) = (Q.length : Int):=by rw [Zac (by omega)]; omega
  have io:=Zwy (k:=b) (n:=Q.length + 1) (i:=Q.length) (by omega)
  have ro:=ZzS (G:=G) (f:=[]) (l:=Q ++ [x]) (w:=[]) (i:=Q.length) (bs:=hs) (by rw [List.length_append]; simp) (by rw [List.append_nil]; exact hb)
  rw [ZAE] at ro
  have hgt : ((Q.length + 1 : Nat) : Int) > (steps : Int):=by omega
  have ex : ∀ L,(hs ++ L)[b]? = some ⟨zcells (Q ++ [x]),false⟩:=fun L => by rw [List.getElem?_append_left (List.getElem?_eq_some_iff.1 hb).1]; exact hb
  have ln : (Q ++ [x]).length = Q.length + 1:=by rw [List.length_append]; rfl
  by_cases h1 : Zf F (evE F x l).1
  ·rw [@decide_eq_true _ (Classical.propDecidable _) h1] at n1
   have k1:=Zjl J hO F wv h1 bv (ZDd F x l)
   by_cases h2 : hlP F (evE F x l)
   ·rw [@decide_eq_true _ (Classical.propDecidable _) h2] at k1
    have hp : paP F l (dE F l) 0 x = ([x],1):=by rw [paP,ZwK h2]
    rw [hp]
    refine ⟨b,hs ++ [zB x,⟨[.int .u64 ((evE F x l).1.1 : Int),.int .u64 ((evE F x l).1.2 : Int),.int .u64 ((evE F x l).2 : Int)],false⟩],?_,ex _⟩
    rw [Zla,ln]
    clear ex hp h1 h2 wv bv hb
    generalize evE F x l = V at *
    simp only [zA,zB,vlA] at *
    repeat' (first | simp only [seval,exC,Zaz,Zje,io,ro,w1,e1,n1,k1,gaB,ZB] | simp (disch:=omega) only [dxB])
   ·rw [@decide_eq_false _ (Classical.propDecidable _) h2] at k1
    have hp : paP F l (dE F l) 0 x = ([x],4):=by rw [paP,ZBY h1 h2]
    rw [hp]
    refine ⟨b,hs ++ [zB x,⟨[.int .u64 ((evE F x l).1.1 : Int),.int .u64 ((evE F x l).1.2 : Int),.int .u64 ((evE F x l).2 : Int)],false⟩],?_,ex _⟩
    rw [Zla,ln]
    clear ex hp h1 h2 wv bv hb
    generalize evE F x l = V at *
    simp only [zA,zB,vlA] at *
    repeat' (first | simp only [seval,exC,Zaz,Zje,io,ro,w1,e1,n1,k1,hgt,gaB,ZB] | simp (disch:=omega) only [dxB])
  ·rw [@decide_eq_false _ (Classical.propDecidable _) h1] at n1
   have hp : paP F l (dE F l) 0 x = ([x],2):=by rw [paP,Zzy h1]
   rw [hp]
   refine ⟨b,hs ++ [zB x,⟨[.int .u64 ((evE F x l).1.1 : Int),.int .u64 ((evE F x l).1.2 : Int),.int .u64 ((evE F x l).2 : Int)],false⟩],?_,ex _⟩
   rw [Zla,ln]
   clear ex hp h1 wv bv hb
   generalize evE F x l = V at *
   simp only [zA,zB,vlA] at *
   repeat' (first | simp only [seval,exC,Zaz,Zje,io,ro,w1,e1,n1,gaB,ZB] | simp (disch:=omega) only [dxB])
 | succ m ih =>
  intro Q x b hs hm wx fx hb
  have e1:=ZhR J hP F (z:=z) (a:=x.1) (b:=x.2) hl.len hl.w wx
  rw [show ((x.1,x.2) : Nat × Nat) = x from rfl] at e1
  have wv:=ZtS x hl.w
  have bv:=ZEu x hl.w
  have n1:=ZaC J F wv.1 wv.2
  rw [ZtA] at n1
  have w1 : IntKind.i64.wrap (((Q.length + 1 : Nat) : Int) - 1) = (Q.length : Int):=by rw [Zac (by omega)]; omega
  have io:=Zwy (k:=b) (n:=Q.length + 1) (i:=Q.length) (by omega)
  have ro:=ZzS (G:=G) (f:=[]) (l:=Q ++ [x]) (w:=[]) (i:=Q.length) (bs:=hs) (by rw [List.length_append]; simp) (by rw [List.append_nil]; exact hb)
  rw [ZAE] at ro
  have hgt : ¬ ((Q.length + 1 : Nat) : Int) > (steps : Int):=by omega
  have ex : ∀ L,(hs ++ L)[b]? = some ⟨zcells (Q ++ [x]),false⟩:=fun L => by rw [List.getElem?_append_left (List.getElem?_eq_some_iff.1 hb).1]; exact hb
  have ln : (Q ++ [x]).length = Q.length + 1:=by rw [List.length_append]; rfl
  by_cases h1 : Zf F (evE F x l).1
  ·rw [@decide_eq_true _ (Classical.propDecidable _) h1] at n1
   have k1:=Zjl J hO F wv h1 bv (ZDd F x l)
   by_cases h2 : hlP F (evE F x l)
   ·rw [@decide_eq_true _ (Classical.propDecidable _) h2] at k1
    have hp : paP F l (dE F l) (m + 1) x = ([x],1):=by rw [paP,ZwK h2,if_neg (by simp)]
    rw [hp]
    refine ⟨b,hs ++ [zB x,⟨[.int .u64 ((evE F x l).1.1 : Int),.int .u64 ((evE F x l).1.2 : Int),.int .u64 ((evE F x l).2 : Int)],false⟩],?_,ex _⟩
    rw [Zla,ln]
    clear ih ex hp h1 h2 wv bv hb
    generalize evE F x l = V at *
    simp only [zA,zB,vlA] at *
    repeat' (first | simp only [seval,exC,Zaz,Zje,io,ro,w1,e1,n1,k1,gaB,ZB] | simp (disch:=omega) only [dxB])
   ·rw [@decide_eq_false _ (Classical.propDecidable _) h2] at k1
    have hon:=ZBZ (D:=dE F l) h1 h2
    have s1:=Zpa J hP hO F (z:=z) hl wx fx wv h1
    rw [← hon] at s1
    by_cases h3 : (onP F l (dE F l) x false).2 = 0
    ·obtain ⟨wy,fy,_⟩:=ZwL h3
     have hp : paP F l (dE F l) (m + 1) x = (x :: (paP F l (dE F l) m (onP F l (dE F l) x false).1).1,(paP F l (dE F l) m (onP F l (dE F l) x false).1).2):=by rw [paP,if_pos h3]
     rw [h3] at s1
     clear hon
     generalize onP F l (dE F l) x false = o at *
     obtain ⟨b2,hs2,ap,hb2e,hb2,fr⟩:=Zsn (hs:=hs ++ [zB x,⟨[.int .u64 ((evE F x l).1.1 : Int),.int .u64 ((evE F x l).1.2 : Int),.int .u64 ((evE F x l).2 : Int)],false⟩,zB o.1,zB o.1]) (c:=hs.length + 3) (b:=b) (i:=Q.length + 1 + 1) (L:=Q ++ [x]) (x:=.int .u64 (o.1.1 : Int)) (y:=.int .u64 (o.1.2 : Int)) (by omega) (by omega) (by rw [ga3]; rfl) (by omega) (fun _ => ex _)
     rw [outV,if_neg (by omega),outV,if_neg (by omega),Nat.add_sub_cancel,Nat.add_sub_cancel] at ap
     obtain ⟨b',hs',lp,hf⟩:=ih (Q ++ [x]) o.1 b2 hs2 (by rw [ln]; omega) wy fy (by rw [hb2,ZmR (Q ++ [x])]; rfl)
     have hap : Q ++ (x :: (paP F l (dE F l) m o.1).1) = (Q ++ [x]) ++ (paP F l (dE F l) m o.1).1:=by simp
     rw [hp]
     simp only
     rw [hap]
     refine ⟨b',hs',?_,hf⟩
     rw [← lp,Zla,ln]
     clear ih ex hp h1 h2 wv bv hb lp hf hap fr hb2 hb2e h3 wy fy
     generalize evE F x l = V at *
     simp only [zA,zB,vlA,cast0] at *
     repeat' (first | simp only [seval,exC,Zaz,Zje,io,ro,w1,e1,n1,k1,hgt,s1,Zmc,ap,gaB,ZB] | simp (disch:=omega) only [dxB])
    ·have h3' : ¬ (((onP F l (dE F l) x false).2 : Nat) : Int) = 0:=by omega
     have hp : paP F l (dE F l) (m + 1) x = ([x],(onP F l (dE F l) x false).2):=by rw [paP,if_neg h3]
     rw [hp]
     generalize onP F l (dE F l) x false = o at *
     refine ⟨b,hs ++ [zB x,⟨[.int .u64 ((evE F x l).1.1 : Int),.int .u64 ((evE F x l).1.2 : Int),.int .u64 ((evE F x l).2 : Int)],false⟩,zB o.1],?_,ex _⟩
     rw [Zla,ln]
     clear ih ex hp h1 h2 wv bv hb h3 hon
     generalize evE F x l = V at *
     simp only [zA,zB,vlA] at *
     repeat' (first | simp only [seval,exC,Zaz,Zje,io,ro,w1,e1,n1,k1,hgt,s1,h3',gaB,ZB] | simp (disch:=omega) only [dxB])
  ·rw [@decide_eq_false _ (Classical.propDecidable _) h1] at n1
   have hp : paP F l (dE F l) (m + 1) x = ([x],2):=by rw [paP,Zzy h1,if_neg (by simp)]
   rw [hp]
   refine ⟨b,hs ++ [zB x,⟨[.int .u64 ((evE F x l).1.1 : Int),.int .u64 ((evE F x l).1.2 : Int),.int .u64 ((evE F x l).2 : Int)],false⟩],?_,ex _⟩
   rw [Zla,ln]
   clear ih ex hp h1 wv bv hb
   generalize evE F x l = V at *
   simp only [zA,zB,vlA] at *
   repeat' (first | simp only [seval,exC,Zaz,Zje,io,ro,w1,e1,n1,gaB,ZB] | simp (disch:=omega) only [dxB])
theorem ZlX (J : Al G T g) (hP : HasK g T) (hO : HasO g T) (F : Fm) {z : Bool} {l : List (Nat × Nat)} {p : Nat × Nat} {steps : Nat} (hl : Pg F l) (wp : Zw F p) (fp : Zf F p) (hst : steps≤100) :
  run G T 358 [.int .u8 F.u,ZL z l,zA p.1 p.2,.int .i64 (steps : Int)] = some (.tup [ZL false (paP F l (dE F l) steps p).1,.int .i64 ((paP F l (dE F l) steps p).2 : Int)]):=by
 rw [Zab G T hO.ZlX]
 obtain ⟨b',hs',lp,hb⟩:=ZoZ J hP hO F (z:=z) hst hl steps [] p 1 [zB p,zB p] (by simp) wp fp rfl
 rw [List.nil_append] at lp hb
 have sg:=sg_Z (d:=2) (ZoQ (bs:=hs') (f:=[]) (k:=b') (w:=[]) (by rw [List.append_nil]; exact hb))
 clear hb
 generalize (paP F l (dE F l) steps p).1 = R at *
 generalize (paP F l (dE F l) steps p).2 = w at *
 simp only [zA,zB,List.length_nil,Nat.zero_add] at *
 repeat' (first | simp only [seval,exC,Zgr,Zmc,ZB,lp,sg] | simp (disch:=omega) only [dxB])
end Go.Cv
