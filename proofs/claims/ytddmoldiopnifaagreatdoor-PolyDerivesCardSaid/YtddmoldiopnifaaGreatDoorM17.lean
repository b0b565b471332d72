/-
 A part of the proof of the statements of this seat (texts that the law's own text leans on): no condition.
-/
import Derived.Test.YtddmoldiopnifaaGreatDoorM16
set_option linter.unusedVariables false
set_option linter.unusedSimpArgs false
namespace Go.Cv
variable {G : Nat→Option (List AV)} {T : Tbl} {g : Nat}
theorem ZhP (J : Al G T g) (hP : HasK g T) (F : Fm) {a b : Nat} (ha : a < 2 * F.sg) (hb : b < 2 * F.sg) : run G T 376 [.agg [.int .u8 F.u],zA a b] = some (.int .u64 (uN F (a,b) : Int)):=by
 rw [Zab G T hP.ZhP]
 have m1:=Zmt J F (md:=4) (by decide) ha hb
 unfold uN
 simp only
 generalize absZ F 4 a b = R at *
 simp only [zA] at *
 repeat' (first|simp (maxSteps:=9^7) only [seval,exC,Zhd,m1]|simp (maxSteps:=9^7) (disch:=first|with_reducible assumption|omega) only [dxB]|(simp only [kdB];split)|(simp only [kvB];split))
theorem ZhM (J : Al G T g) (hP : HasK g T) (F : Fm) {a b : Nat} (ha : a < 2 * F.sg) (hb : b < 2 * F.sg) : run G T 377 [.agg [.int .u8 F.u],.int .u64 (a : Int),.int .u64 (b : Int)] = some (.int .u64 (uA F a b : Int)):=by
 rw [Zab G T hP.ZhM]
 have m1:=ZnB J F (md:=4) (by decide) ha hb
 unfold uA
 generalize addW F 4 a b = R at *
 repeat' (first|simp (maxSteps:=9^7) only [seval,exC,Zhc,m1]|simp (maxSteps:=9^7) (disch:=first|with_reducible assumption|omega) only [dxB]|(simp only [kdB];split)|(simp only [kvB];split))
theorem ZmF (J : Al G T g) (hP : HasK g T) (F : Fm) {a b : Nat} (ha : a < 2 * F.sg) (hb : b < 2 * F.sg) : run G T 378 [.agg [.int .u8 F.u],.int .u64 (a : Int),.int .u64 (b : Int)] = some (.int .u64 (uM F a b : Int)):=by
 rw [Zab G T hP.ZmF]
 have m1:=Znf J F (md:=4) (by decide) ha hb
 unfold uM
 generalize mulW2 F 4 a b = R at *
 repeat' (first|simp (maxSteps:=9^7) only [seval,exC,Zha,m1]|simp (maxSteps:=9^7) (disch:=first|with_reducible assumption|omega) only [dxB]|(simp only [kdB];split)|(simp only [kvB];split))
theorem ZjU (J : Al G T g) (hP : HasK g T) (F : Fm) {w : Nat} (hw : w < 2 * F.sg) : run G T 379 [.agg [.int .u8 F.u],.int .u64 (w : Int)] = some (.int .u64 (uS F w : Int)):=by
 rw [Zab G T hP.ZjU]
 have hF:=Zba F
 have m1:=Zoh J hP F (md:=4) (by decide) hw (n := -(F.fr + 1 : Nat)) (by omega)
 unfold uS
 generalize scaW F 4 w (-(F.fr + 1 : Nat)) = R at *
 have w1 : IntKind.i64.wrap (0 - 24) = -24:=rfl
 have w2 : IntKind.i64.wrap (0 - 53) = -53:=rfl
 cases F
 ·rw [show -((Fm.s.fr + 1 : Nat) : Int) = -24 from rfl] at m1
  simp only [Fm.u] at *
  repeat' (first|simp (maxSteps:=9^7) only [seval,exC,ZcI,w1,m1]|simp (maxSteps:=9^7) (disch:=first|with_reducible assumption|omega) only [dxB]|(simp only [kdB];split)|(simp only [kvB];split))
 ·rw [show -((Fm.d.fr + 1 : Nat) : Int) = -53 from rfl] at m1
  simp only [Fm.u] at *
  repeat' (first|simp (maxSteps:=9^7) only [seval,exC,ZcI,w2,m1]|simp (maxSteps:=9^7) (disch:=first|with_reducible assumption|omega) only [dxB]|(simp only [kdB];split)|(simp only [kvB];split))
theorem ZrC (e : Env) (h : Heap) : evL G T Zgt e h = kS G T (evL G T Zbw (keepE [0,9,10,11] e) h) Zgt:=Zae G T rfl e h
section
variable (x y z : AV) (k : IntKind)
theorem ZCf : iaddrV 1 (.imm 3 [x,y,z]) (.int k 0) = some (.iptr [x,y,z] 0):=rfl
theorem ZCu : iaddrV 1 (.imm 3 [x,y,z]) (.int k 1) = some (.iptr [x,y,z] 1):=rfl
theorem ZCC : iaddrV 1 (.imm 3 [x,y,z]) (.int k 2) = some (.iptr [x,y,z] 2):=rfl
end
theorem ZrW {F : Fm} {w : Nat} : F.fin w↔¬ 4≤F.cls w:=by have:=ZaN F w; rw [Zag]; omega
set_option maxHeartbeats 4000000 in
theorem Ztb (J : Al G T g) (hP : HasK g T) (F : Fm) {a b c : Nat} (ha : a < 2 * F.sg) (hb : b < 2 * F.sg) (hc : c < 2 * F.sg) : run G T 380 [.int .u8 F.u,.imm 3 [.int .u64 (a : Int),.int .u64 (b : Int),.int .u64 (c : Int)]] = some (.bool (decide (F.fin a∧F.fin b∧F.fin c))):=by
 rw [Zab G T hP.poly_finite]
 have c1:=Zbl J F ha
 have c2:=Zbl J F hb
 have c3:=Zbl J F hc
 have e1:=ZrW (F:=F) (w:=a)
 have e2:=ZrW (F:=F) (w:=b)
 have e3:=ZrW (F:=F) (w:=c)
 generalize F.cls a = x at *
 generalize F.cls b = y at *
 generalize F.cls c = z at *
 by_cases h1 : 4≤x
 ·rw [decide_eq_false (fun q => e1.1 q.1 h1)]
  repeat' (first|simp (maxSteps:=9^7) only [seval,exC,Zcg,ZrC,Zbw,ZCf,ZCu,ZCC,rp_0,rp_1,rp_2,c1,h1,wr_1,wr1,wr_2,wr2,wr_3,wr3]|simp (maxSteps:=9^7) (disch:=first|with_reducible assumption|omega) only [dxB]|(simp only [kdB];split)|(simp only [kvB];split))
 ·by_cases h2 : 4≤y
  ·rw [decide_eq_false (fun q => e2.1 q.2.1 h2)]
   repeat' (first|simp (maxSteps:=9^7) only [seval,exC,Zcg,ZrC,Zbw,ZCf,ZCu,ZCC,rp_0,rp_1,rp_2,c1,h1,c2,h2,wr_1,wr1,wr_2,wr2,wr_3,wr3]|simp (maxSteps:=9^7) (disch:=first|with_reducible assumption|omega) only [dxB]|(simp only [kdB];split)|(simp only [kvB];split))
  ·by_cases h3 : 4≤z
   ·rw [decide_eq_false (fun q => e3.1 q.2.2 h3)]
    repeat' (first|simp (maxSteps:=9^7) only [seval,exC,Zcg,ZrC,Zbw,ZCf,ZCu,ZCC,rp_0,rp_1,rp_2,c1,h1,c2,h2,c3,h3,wr_1,wr1,wr_2,wr2,wr_3,wr3]|simp (maxSteps:=9^7) (disch:=first|with_reducible assumption|omega) only [dxB]|(simp only [kdB];split)|(simp only [kvB];split))
   ·rw [decide_eq_true ⟨e1.2 h1,e2.2 h2,e3.2 h3⟩]
    repeat' (first|simp (maxSteps:=9^7) only [seval,exC,Zcg,ZrC,Zbw,ZCf,ZCu,ZCC,rp_0,rp_1,rp_2,c1,h1,c2,h2,c3,h3,wr_1,wr1,wr_2,wr2,wr_3,wr3]|simp (maxSteps:=9^7) (disch:=first|with_reducible assumption|omega) only [dxB]|(simp only [kdB];split)|(simp only [kvB];split))
theorem ZyB (F : Fm) (z : Nat × Nat) {l : List (Nat × Nat)} {j : Nat} (h : j + 1 < l.length) : pE F z (l.drop j) = stE F z (pE F z (l.drop (j + 1))) (zc l j):=by
 rw [ZjO (show j < l.length by omega),ZjO h]; rfl
theorem ZyE (e : Env) (h : Heap) : evL G T ZfP e h = kS G T (evL G T ZfL (keepE [0,1,5,6,9,10,11,12,13] e) h) ZfP:=Zae G T rfl e h
def zB (p : Nat × Nat) : Blk:=⟨[.int .u64 (p.1 : Int),.int .u64 (p.2 : Int)],false⟩
set_option maxHeartbeats 16000000 in
theorem Zmi (J : Al G T g) (hP : HasK g T) (F : Fm) {l : List (Nat × Nat)} {z : Bool} {p : Nat × Nat} {B : Blk} (hl : l.length≤41) (hw : Zws F l) (hp : Zw F p) : ∀ (j : Nat) (bs : List Blk),j < l.length →
  ∃ bs',evL G T ZfP [(0,.int .u8 F.u),(1,ZL z l),(5,.ptr 0 0),(6,.ptr 1 0),(9,.ptr 2 0),(10,.int .u64 (uN F p : Int)),(11,.int .u64 ((pE F p (l.drop j)).2 : Int)),(12,.ptr 3 0),(13,.int .i64 ((j : Int) - 1))]
    ⟨zB p :: B :: ⟨[.int .u8 F.u],false⟩ :: zB (pE F p (l.drop j)).1 :: bs,[]⟩ =
   some (.exit 0,[(0,.int .u8 F.u),(1,ZL z l),(5,.ptr 0 0),(6,.ptr 1 0),(9,.ptr 2 0),(10,.int .u64 (uN F p : Int)),(11,.int .u64 ((pE F p l).2 : Int)),(12,.ptr 3 0),(13,.int .i64 (-1)),(45,.bool false)],⟨zB p :: B :: ⟨[.int .u8 F.u],false⟩ :: zB (pE F p l).1 :: bs',[]⟩)
 | 0,bs,_ => by
  refine ⟨bs,?_⟩
  rw [List.drop_zero,ZyE]
  generalize pE F p l = s at *
  generalize uN F p = r at *
  simp only [zB]
  repeat' (first|simp (maxSteps:=9^7) only [seval,exC,ZfL,cast0,Int.zero_sub]|simp (maxSteps:=9^7) (disch:=first|with_reducible assumption|omega) only [dxB]|(simp only [kdB];split)|(simp only [kvB];split))
 | j + 1,bs,hj => by
  have hjl : j < l.length:=by omega
  have ih:=Zmi J hP F (z:=z) (p:=p) (B:=B) hl hw hp j
  have wa:=hw _ (Zms hjl)
  have ws:=pE_w F p (l.drop (j + 1)) (fun a ha => hw a (List.mem_of_mem_drop ha))
  have hs:=ZyB F p hj
  rw [hs] at ih
  have wp:=zM_w F (pE F p (l.drop (j + 1))).1 p
  have wq:=zP_w F (zM F (pE F p (l.drop (j + 1))).1 p) (zc l j)
  have m1:=ZpW J F (md:=1) (by decide) ws.1.1 ws.1.2 hp.1 hp.2
  have m2:=Zpu J F (md:=1) (by decide) wp.1 wp.2 wa.1 wa.2
  have l2:=Zup F p
  have u1:=ZmF J hP F ws.2 l2
  have u2:=ZhP J hP F wp.1 wp.2
  have u3:=ZhP J hP F wq.1 wq.2
  have u4:=ZhM J hP F (Zup F (zM F (pE F p (l.drop (j + 1))).1 p)) (Zup F (zP F (zM F (pE F p (l.drop (j + 1))).1 p) (zc l j)))
  have l3 : uA F (uN F (zM F (pE F p (l.drop (j + 1))).1 p)) (uN F (zP F (zM F (pE F p (l.drop (j + 1))).1 p) (zc l j))) < 2 * F.sg:=ZjF F (by decide)
  have u5:=ZjU J hP F l3
  have l4 : uS F (uA F (uN F (zM F (pE F p (l.drop (j + 1))).1 p)) (uN F (zP F (zM F (pE F p (l.drop (j + 1))).1 p) (zc l j)))) < 2 * F.sg:=Zyp F (by decide) l3 _
  have u6:=ZhM J hP F l4 (ZGU F).1
  have u7:=ZhM J hP F (a:=uM F (pE F p (l.drop (j + 1))).2 (uN F p)) (b:=uA F (uS F (uA F (uN F (zM F (pE F p (l.drop (j + 1))).1 p)) (uN F (zP F (zM F (pE F p (l.drop (j + 1))).1 p) (zc l j))))) 2) (Zst F (by decide)) (ZjF F (by decide))
  have t1 : ((j : Int)).toNat = j:=Int.toNat_natCast j
  have e1 : ((j + 1 : Nat) : Int) - 1 = j:=by omega
  have j0 : 0≤(j : Int):=by omega
  have w1 : IntKind.i64.wrap ((j : Int) - 1) = (j : Int) - 1:=Zac (by omega)
  have ia:=Zgx (z:=z) (l:=l) (k:=.i64) (j:=(j : Int)) ⟨by omega,by omega⟩
  rw [t1] at ia
  have rd:=fun mm => rd_Z (G:=G) mm hjl
  rw [e1,ZyE]
  unfold stE at ih
  have mZ : zM F (pE F p (l.drop (j + 1))).1 p = ((mulZ F 1 (pE F p (l.drop (j + 1))).1.1 (pE F p (l.drop (j + 1))).1.2 p.1 p.2).1.1,(mulZ F 1 (pE F p (l.drop (j + 1))).1.1 (pE F p (l.drop (j + 1))).1.2 p.1 p.2).2.1):=rfl
  generalize mulZ F 1 (pE F p (l.drop (j + 1))).1.1 (pE F p (l.drop (j + 1))).1.2 p.1 p.2 = M at *
  have mP : zP F (zM F (pE F p (l.drop (j + 1))).1 p) (zc l j) = ((addW F 1 (zM F (pE F p (l.drop (j + 1))).1 p).1 (zc l j).1).1,(addW F 1 (zM F (pE F p (l.drop (j + 1))).1 p).2 (zc l j).2).1):=rfl
  generalize addW F 1 (zM F (pE F p (l.drop (j + 1))).1 p).1 (zc l j).1 = A1 at *
  generalize addW F 1 (zM F (pE F p (l.drop (j + 1))).1 p).2 (zc l j).2 = A2 at *
  generalize zP F (zM F (pE F p (l.drop (j + 1))).1 p) (zc l j) = q at *
  generalize zM F (pE F p (l.drop (j + 1))).1 p = pp at *
  subst mZ mP
  generalize pE F p (l.drop (j + 1)) = s at *
  generalize zc l j = a at *
  generalize uA F (uM F s.2 (uN F p)) (uA F (uS F (uA F (uN F (M.1.1,M.2.1)) (uN F (A1.1,A2.1)))) 2) = V7 at *
  generalize uA F (uS F (uA F (uN F (M.1.1,M.2.1)) (uN F (A1.1,A2.1)))) 2 = V6 at *
  generalize uS F (uA F (uN F (M.1.1,M.2.1)) (uN F (A1.1,A2.1))) = V5 at *
  generalize uA F (uN F (M.1.1,M.2.1)) (uN F (A1.1,A2.1)) = V4 at *
  generalize uM F s.2 (uN F p) = V1 at *
  generalize uN F (M.1.1,M.2.1) = V2 at *
  generalize uN F (A1.1,A2.1) = V3 at *
  generalize uN F p = r at *
  clear l2 l3 l4 wp wq ws wa hs
  obtain ⟨bs',ih⟩:=ih (bs ++ [⟨[.int .u64 (M.1.1 : Int),.int .u64 (M.2.1 : Int),.int .u8 (M.1.2 : Int),.int .u8 (M.2.2 : Int)],false⟩,⟨[.int .u64 (A1.1 : Int),.int .u64 (A2.1 : Int),.int .u8 (A1.2 : Int),.int .u8 (A2.2 : Int)],false⟩]) hjl
  refine ⟨bs',?_⟩
  rw [← ih]
  simp only [zB,zA,zrA,Int.cast_ofNat_Int] at *
  repeat' (first|simp (maxSteps:=9^7) only [seval,exC,ZfL,j0,m1,m2,u1,u2,u3,u4,u5,u6,u7,ia,rd,gaB,ZB,w1]|simp (maxSteps:=9^7) (disch:=first|with_reducible assumption|omega) only [dxB]|(simp only [kdB];split)|(simp only [kvB];split))
end Go.Cv
namespace Go.Cv
variable {G : Nat→Option (List AV)} {T : Tbl} {g : Nat}
def vlA (y : Nat × Nat) (b : Nat) : AV:=.agg [.int .u64 (y.1 : Int),.int .u64 (y.2 : Int),.int .u64 (b : Int)]
noncomputable def evE (F : Fm) (p : Nat × Nat) (l : List (Nat × Nat)) : (Nat × Nat) × Nat:=if l = [] then ((0,0),0) else ((pE F p l).1,bdE F (pE F p l))
theorem Zta {l : List (Nat × Nat)} {n : Nat} (h : l.length = n + 1) : l.drop n = [zc l n]:=by rw [ZjO (by omega),List.drop_eq_nil_of_le (by omega)]
set_option maxHeartbeats 16000000 in
theorem ZeO (J : Al G T g) (hP : HasK g T) (F : Fm) {l : List (Nat × Nat)} {z : Bool} {a b : Nat} (h64 : W64 l) (ha : a < 18446744073709551616) (hb : b < 18446744073709551616) (h : opC F l (a,b) = 0) (hl : ¬ 41 < l.length) (hw : Zws F l) (hp : Zw F (a,b)) :
  run G T 342 [.int .u8 F.u,ZL z l,zA a b] = some (.tup [vlA (evE F (a,b) l).1 (evE F (a,b) l).2,.int .i64 0]):=by
 rw [Zab G T hP.ZeO]
 have o1:=Zjs J hP F (z:=z) h64 ha hb
 rw [h] at o1
 unfold evE
 by_cases h0 : l = []
 ·rw [if_pos h0]
  have hn : (l.length : Int) = 0:=by rw [h0]; rfl
  simp only [zA,vlA,cast0] at *
  repeat' (first|simp (maxSteps:=9^7) only [seval,exC,ZdI,ZB,o1,hn]|simp (maxSteps:=9^7) (disch:=first|with_reducible assumption|omega) only [dxB]|(simp only [kdB];split)|(simp only [kvB];split))
 ·rw [if_neg h0]
  obtain ⟨n,hln⟩ : ∃ n,l.length = n + 1:=⟨l.length - 1,by have : l.length≠0:=fun q => h0 (List.length_eq_zero_iff.1 q); omega⟩
  have hn : ¬ (l.length : Int) = 0:=by omega
  have w1 : IntKind.i64.wrap ((l.length : Int) - 1) = (n : Int):=by rw [Zac (by omega)]; omega
  have w2 : IntKind.i64.wrap ((l.length : Int) - 2) = (n : Int) - 1:=by rw [Zac (by omega)]; omega
  have t1 : ((n : Int)).toNat = n:=Int.toNat_natCast n
  have ia:=Zgx (z:=z) (l:=l) (k:=.i64) (j:=(n : Int)) ⟨by omega,by omega⟩
  rw [t1] at ia
  have rd:=fun mm => rd_Z (G:=G) mm (show n < l.length by omega)
  have u1:=ZhP J hP F hp.1 hp.2
  obtain ⟨bs,lp⟩:=Zmi J hP F (z:=z) (p:=(a,b)) (B:=⟨[.int .u64 0,.int .u64 0,.int .u64 0],false⟩) (by omega) hw hp n [] (by omega)
  rw [Zta hln] at lp
  rw [show pE F (a,b) [zc l n] = (zc l n,0) from rfl] at lp
  have ws:=pE_w F (a,b) l hw
  have f1:=Ztb J hP F ws.1.1 ws.1.2 ws.2
  have i1:=ZjG J F (n:=false)
  unfold bdE
  generalize pE F (a,b) l = s at *
  generalize zc l n = c at *
  generalize uN F (a,b) = r at *
  generalize F.inf false = inf at *
  simp only [zB,zA,vlA,cast0] at *
  by_cases hf : F.fin s.1.1∧F.fin s.1.2∧F.fin s.2
  ·rw [decide_eq_true hf] at f1
   rw [if_pos hf]
   repeat' (first|simp (maxSteps:=9^7) only [seval,exC,ZdI,gaB,ZB,ZlD,ZDN,o1,hn,u1,w1,w2,ia,rd,lp,f1]|simp (maxSteps:=9^7) (disch:=first|with_reducible assumption|omega) only [dxB]|(simp only [kdB];split)|(simp only [kvB];split))
  ·rw [decide_eq_false hf] at f1
   rw [if_neg hf]
   repeat' (first|simp (maxSteps:=9^7) only [seval,exC,ZdI,gaB,ZB,ZlD,ZDN,o1,hn,u1,w1,w2,ia,rd,lp,f1,i1]|simp (maxSteps:=9^7) (disch:=first|with_reducible assumption|omega) only [dxB]|(simp only [kdB];split)|(simp only [kvB];split))
theorem ZrP (J : Al G T g) (hP : HasK g T) {f e : Int} {l : AV} {a b : Nat} (he : e≠0) (h : run G T 375 [.int .u8 f,l,zA a b] = some (.int .i64 e)) (hs : ∀ gg,snapA gg l = some l) :
  run G T 342 [.int .u8 f,l,zA a b] = some (.tup [vlA (0,0) 0,.int .i64 e]):=by
 rw [Zab G T hP.ZeO]
 simp only [zA,vlA,cast0] at *
 repeat' (first|simp (maxSteps:=9^7) only [seval,exC,ZdI,hs,h,he]|simp (maxSteps:=9^7) (disch:=first|with_reducible assumption|omega) only [dxB]|(simp only [kdB];split)|(simp only [kvB];split))
theorem ZnW (J : Al G T g) (hP : HasK g T) (F : Fm) {p q : Nat × Nat} (hp : Zw F p) (hq : Zw F q) : run G T 381 [.int .u8 F.u,zA p.1 p.2,zA q.1 q.2] = some (.int .u64 (uA F (uS F (uA F (uN F p) (uN F q))) 2 : Int)):=by
 rw [Zab G T hP.ZnW]
 have hF:=Zba F
 have a1:=ZkZ J F (md:=4) (by decide) hp.1 hp.2
 have a2:=ZkZ J F (md:=4) (by decide) hq.1 hq.2
 have l1 : (absZ F 4 p.1 p.2).1 < 2 * F.sg:=Zup F p
 have l2 : (absZ F 4 q.1 q.2).1 < 2 * F.sg:=Zup F q
 have s1:=Zdx J F (md:=4) (by decide) l1 l2
 have l3 : (addW F 4 (absZ F 4 p.1 p.2).1 (absZ F 4 q.1 q.2).1).1 < 2 * F.sg:=ZjF F (by decide)
 have c1:=Zmw J hP F (md:=4) (by decide) l3 (n := -(F.fr + 1 : Nat)) (by omega)
 have l4 : (scaW F 4 (addW F 4 (absZ F 4 p.1 p.2).1 (absZ F 4 q.1 q.2).1).1 (-(F.fr + 1 : Nat))).1 < 2 * F.sg:=Zyp F (by decide) l3 _
 have s2:=Zdx J F (md:=4) (by decide) l4 (ZGU F).1
 have r1:=Zde J F
 have w1 : IntKind.i64.wrap (0 - (F.fr : Int)) = -(F.fr : Int):=by rw [Int.zero_sub]; exact Zac (by omega)
 have w2 : IntKind.i64.wrap (-(F.fr : Int) - 1) = -((F.fr + 1 : Nat) : Int):=by rw [Zac (by omega)]; omega
 unfold uA uS uN
 generalize addW F 4 (scaW F 4 (addW F 4 (absZ F 4 p.1 p.2).1 (absZ F 4 q.1 q.2).1).1 (-(F.fr + 1 : Nat))).1 2 = R4 at *
 generalize scaW F 4 (addW F 4 (absZ F 4 p.1 p.2).1 (absZ F 4 q.1 q.2).1).1 (-(F.fr + 1 : Nat)) = R3 at *
 generalize addW F 4 (absZ F 4 p.1 p.2).1 (absZ F 4 q.1 q.2).1 = R2 at *
 generalize absZ F 4 p.1 p.2 = R0 at *
 generalize absZ F 4 q.1 q.2 = R1 at *
 generalize -((F.fr + 1 : Nat) : Int) = nn at *
 generalize (F.fr : Int) = fr at *
 simp only [zA,Int.cast_ofNat_Int] at *
 repeat' (first|simp (maxSteps:=9^7) only [seval,exC,ZhR,a1,a2,s1,r1,w1,w2,c1,s2]|simp (maxSteps:=9^7) (disch:=first|with_reducible assumption|omega) only [dxB]|(simp only [kdB];split)|(simp only [kvB];split))
theorem ZIP (x y z w : AV) : fieldA true 0 2 (.agg [x,y,z,w]) = some (.agg [x,y]):=rfl
theorem ZuS (e : Env) (h : Heap) : evL G T ZeC e h = kS G T (evL G T ZcN (keepE [0,1,5,6,7,9,11,12] e) h) ZeC:=Zae G T rfl e h
set_option maxHeartbeats 16000000 in
theorem ZkX (J : Al G T g) (hP : HasK g T) (F : Fm) {l : List (Nat × Nat)} {z : Bool} {p : Nat × Nat} {B : Blk} (hl : l.length≤41) (hw : Zws F l) (hp : Zw F p) : ∀ (j : Nat) (bs : List Blk),j < l.length →
  ∃ bs',evL G T ZeC [(0,.int .u8 F.u),(1,ZL z l),(5,.ptr 0 0),(6,.ptr 1 0),(7,.ptr 2 0),(9,.int .u64 (uN F p : Int)),(11,.int .u64 ((pE F p (l.drop j)).2 : Int)),(12,.int .i64 ((j : Int) - 1))]
    ⟨zB p :: B :: zB (pE F p (l.drop j)).1 :: bs,[]⟩ =
   some (.exit 0,[(0,.int .u8 F.u),(1,ZL z l),(5,.ptr 0 0),(6,.ptr 1 0),(7,.ptr 2 0),(9,.int .u64 (uN F p : Int)),(11,.int .u64 ((pE F p l).2 : Int)),(12,.int .i64 (-1)),(34,.bool false)],⟨zB p :: B :: zB (pE F p l).1 :: bs',[]⟩)
 | 0,bs,_ => by
  refine ⟨bs,?_⟩
  rw [List.drop_zero,ZuS]
  generalize pE F p l = s at *
  generalize uN F p = r at *
  simp only [zB]
  repeat' (first|simp (maxSteps:=9^7) only [seval,exC,ZcN,cast0,Int.zero_sub]|simp (maxSteps:=9^7) (disch:=first|with_reducible assumption|omega) only [dxB]|(simp only [kdB];split)|(simp only [kvB];split))
 | j + 1,bs,hj => by
  have hjl : j < l.length:=by omega
  have ih:=ZkX J hP F (z:=z) (p:=p) (B:=B) hl hw hp j
  have wa:=hw _ (Zms hjl)
  have ws:=pE_w F p (l.drop (j + 1)) (fun a ha => hw a (List.mem_of_mem_drop ha))
  have hs:=ZyB F p hj
  rw [hs] at ih
  have wp:=zM_w F (pE F p (l.drop (j + 1))).1 p
  have wq:=zP_w F (zM F (pE F p (l.drop (j + 1))).1 p) (zc l j)
  have m1:=ZpE J F (md:=1) (by decide) ws.1.1 ws.1.2 hp.1 hp.2
  have m2:=Zqh J F (md:=1) (by decide) wp.1 wp.2 wa.1 wa.2
  have u1:=Zem J F (md:=4) (by decide) ws.2 (Zup F p)
  have u2:=ZnW J hP F wp wq
  have u3:=Zdx J F (md:=4) (by decide) (a:=uM F (pE F p (l.drop (j + 1))).2 (uN F p)) (b:=uA F (uS F (uA F (uN F (zM F (pE F p (l.drop (j + 1))).1 p)) (uN F (zP F (zM F (pE F p (l.drop (j + 1))).1 p) (zc l j))))) 2) (Zst F (by decide)) (ZjF F (by decide))
  have t1 : ((j : Int)).toNat = j:=Int.toNat_natCast j
  have e1 : ((j + 1 : Nat) : Int) - 1 = j:=by omega
  have j0 : 0≤(j : Int):=by omega
  have w1 : IntKind.i64.wrap ((j : Int) - 1) = (j : Int) - 1:=Zac (by omega)
  have ia:=Zgx (z:=z) (l:=l) (k:=.i64) (j:=(j : Int)) ⟨by omega,by omega⟩
  rw [t1] at ia
  have rd:=fun mm => rd_Z (G:=G) mm hjl
  rw [e1,ZuS]
  unfold stE at ih
  have mZ : zM F (pE F p (l.drop (j + 1))).1 p = ((mulZ F 1 (pE F p (l.drop (j + 1))).1.1 (pE F p (l.drop (j + 1))).1.2 p.1 p.2).1.1,(mulZ F 1 (pE F p (l.drop (j + 1))).1.1 (pE F p (l.drop (j + 1))).1.2 p.1 p.2).2.1):=rfl
  generalize mulZ F 1 (pE F p (l.drop (j + 1))).1.1 (pE F p (l.drop (j + 1))).1.2 p.1 p.2 = M at *
  have mP : zP F (zM F (pE F p (l.drop (j + 1))).1 p) (zc l j) = ((addW F 1 (zM F (pE F p (l.drop (j + 1))).1 p).1 (zc l j).1).1,(addW F 1 (zM F (pE F p (l.drop (j + 1))).1 p).2 (zc l j).2).1):=rfl
  generalize addW F 1 (zM F (pE F p (l.drop (j + 1))).1 p).1 (zc l j).1 = A1 at *
  generalize addW F 1 (zM F (pE F p (l.drop (j + 1))).1 p).2 (zc l j).2 = A2 at *
  generalize zP F (zM F (pE F p (l.drop (j + 1))).1 p) (zc l j) = q at *
  generalize zM F (pE F p (l.drop (j + 1))).1 p = pp at *
  subst mZ mP
  generalize pE F p (l.drop (j + 1)) = s at *
  generalize zc l j = a at *
  generalize uA F (uS F (uA F (uN F (M.1.1,M.2.1)) (uN F (A1.1,A2.1)))) 2 = V6 at *
  unfold uA uM at ih
  unfold uM at u3
  generalize mulW2 F 4 s.2 (uN F p) = V1 at *
  generalize addW F 4 V1.1 V6 = V7 at *
  generalize uN F p = r at *
  clear wp wq ws wa hs
  obtain ⟨bs',ih⟩:=ih (bs ++ [⟨[.int .u64 (M.1.1 : Int),.int .u64 (M.2.1 : Int)],false⟩]) hjl
  refine ⟨bs',?_⟩
  rw [← ih]
  simp only [zB,zA,zrA] at *
  repeat' (first|simp (maxSteps:=9^7) only [seval,exC,ZcN,ZIP,j0,m1,m2,u1,u2,u3,ia,rd,gaB,ZB,w1]|simp (maxSteps:=9^7) (disch:=first|with_reducible assumption|omega) only [dxB]|(simp only [kdB];split)|(simp only [kvB];split))
set_option maxHeartbeats 16000000 in
theorem Zop (J : Al G T g) (hP : HasK g T) (F : Fm) {l : List (Nat × Nat)} {z : Bool} {a b : Nat} (hl : ¬ 41 < l.length) (hw : Zws F l) (hp : Zw F (a,b)) :
  run G T 346 [.int .u8 F.u,ZL z l,zA a b] = some (vlA (evE F (a,b) l).1 (evE F (a,b) l).2):=by
 rw [Zab G T hP.Zop]
 have a1:=ZkZ J F (md:=4) (by decide) hp.1 hp.2
 unfold evE
 by_cases h0 : l = []
 ·rw [if_pos h0]
  have hn : (l.length : Int) = 0:=by rw [h0]; rfl
  have w1 : IntKind.i64.wrap (0 - 1) = -1:=rfl
  have w2 : IntKind.i64.wrap (-1 - 1) = -2:=rfl
  have z0 : (0 : Nat) < 2 * F.sg:=by cases F <;> decide
  have zf : F.fin 0:=Zag.2 (Or.inl (ZaE F false).2.2.1)
  have f1:=ZbZ J F z0 z0
  have f2:=ZdP J F (Zce z0)
  rw [decide_eq_true ⟨zf,zf⟩] at f1
  rw [decide_eq_true zf] at f2
  generalize absZ F 4 a b = R at *
  simp only [zA,vlA,cast0] at *
  repeat' (first|simp (maxSteps:=9^7) only [seval,exC,ZcG,ZB,hn,w1,w2,a1,ZuS,ZcN,f1,f2]|simp (maxSteps:=9^7) (disch:=first|with_reducible assumption|omega) only [dxB]|(simp only [kdB];split)|(simp only [kvB];split))
 ·rw [if_neg h0]
  obtain ⟨n,hln⟩ : ∃ n,l.length = n + 1:=⟨l.length - 1,by have : l.length≠0:=fun q => h0 (List.length_eq_zero_iff.1 q); omega⟩
  have n0 : 0≤(n : Int):=by omega
  have w1 : IntKind.i64.wrap ((l.length : Int) - 1) = (n : Int):=by rw [Zac (by omega)]; omega
  have w2 : IntKind.i64.wrap ((n : Int) - 1) = (n : Int) - 1:=Zac (by omega)
  have t1 : ((n : Int)).toNat = n:=Int.toNat_natCast n
  have ia:=Zgx (z:=z) (l:=l) (k:=.i64) (j:=(n : Int)) ⟨by omega,by omega⟩
  rw [t1] at ia
  have rd:=fun mm => rd_Z (G:=G) mm (show n < l.length by omega)
  obtain ⟨bs,lp⟩:=ZkX J hP F (z:=z) (p:=(a,b)) (B:=⟨[.int .u64 0,.int .u64 0,.int .u64 0],false⟩) (by omega) hw hp n [] (by omega)
  rw [Zta hln] at lp
  rw [show pE F (a,b) [zc l n] = (zc l n,0) from rfl] at lp
  have ws:=pE_w F (a,b) l hw
  have f1:=ZbZ J F ws.1.1 ws.1.2
  have f2:=ZdP J F (Zce ws.2)
  have i1:=ZhA J F (n:=false)
  unfold bdE
  unfold uN at lp
  simp only at lp
  generalize absZ F 4 a b = R at *
  generalize pE F (a,b) l = s at *
  generalize zc l n = c at *
  generalize F.inf false = inf at *
  simp only [zB,zA,vlA,cast0] at *
  by_cases k1 : F.fin s.1.1∧F.fin s.1.2
  ·rw [decide_eq_true k1] at f1
   by_cases k2 : F.fin s.2
   ·rw [decide_eq_true k2] at f2
    rw [if_pos ⟨k1.1,k1.2,k2⟩]
    repeat' (first|simp (maxSteps:=9^7) only [seval,exC,ZcG,ZB,n0,w1,w2,a1,ia,rd,lp,f1,f2]|simp (maxSteps:=9^7) (disch:=first|with_reducible assumption|omega) only [dxB]|(simp only [kdB];split)|(simp only [kvB];split))
   ·rw [decide_eq_false k2] at f2
    rw [if_neg (fun q => k2 q.2.2)]
    repeat' (first|simp (maxSteps:=9^7) only [seval,exC,ZcG,ZB,n0,w1,w2,a1,ia,rd,lp,f1,f2,i1]|simp (maxSteps:=9^7) (disch:=first|with_reducible assumption|omega) only [dxB]|(simp only [kdB];split)|(simp only [kvB];split))
  ·rw [decide_eq_false k1] at f1
   rw [if_neg (fun q => k1 ⟨q.1,q.2.1⟩)]
   repeat' (first|simp (maxSteps:=9^7) only [seval,exC,ZcG,ZB,n0,w1,w2,a1,ia,rd,lp,f1,i1]|simp (maxSteps:=9^7) (disch:=first|with_reducible assumption|omega) only [dxB]|(simp only [kdB];split)|(simp only [kvB];split))
def Tb (d : Dy) (W E : Nat) : Prop:=d.m≠0→(-(E : Int)≤d.e∧d.e + blen d.m≤W)
theorem Tb.mono {d : Dy} {W E W' E' : Nat} (h : Tb d W E) (h1 : W≤W') (h2 : E≤E') : Tb d W' E':=fun h0 => by have:=h h0; omega
theorem ZEq (F : Fm) {md : Int} (hm : 1≤md∧md≤5) {d : Dy} (nz : Nz d) (h0 : d.m≠0) : F.ng (rndW F md d).1 = d.n:=by
 have hi:=ZdJ F
 have e : quoW F md d oneD = rndW F md d:=ZtH F md nz nz ZEu h0 (by decide) (K:=d.e) (L:=0) (by rw [Int.add_zero]; exact Or.inr (Int.le_refl _)) (Or.inr (Int.le_refl _)) ZGh (by rw [ZGY,Int.mul_one,Int.add_zero])
 obtain ⟨s0,o,h,m,hs⟩:=ZwQ F h0 (show oneD.m≠0 by decide)
 have k:=(Zjw F hm (d.n != oneD.n) o h m s0).2.2.2
 rw [← e,hs md hm,show (d.n != oneD.n) = d.n by show (d.n != false) = d.n; cases d.n <;> rfl] at *
 exact (ZcR d.n (by simp only at k; omega)).2
theorem ZAd (F : Fm) (n : Bool) : F.ng (F.sgn n) = n:=(ZaE F n).2.1
theorem ng0 (F : Fm) : F.ng 0 = false:=(ZaE F false).2.1
theorem ZID (F : Fm) {w : Nat} (hf : F.fin w) (h0 : (F.vl w).m≠0) : (F.vl w).n = F.ng w:=by
 rw [Zbm hf] at h0 ⊢
 unfold Fm.val at h0 ⊢
 split
 ·next q => rw [if_pos q] at h0; exact Zzr (fun k => h0 (by rw [k]; rfl)) _
 ·next q => rw [if_neg q] at h0; exact Zzr (fun k => h0 (by rw [k]; rfl)) _
theorem ZqL (F : Fm) {w : Nat} (hf : F.fin w) (h : F.ng w = false) : (F.vl w).n = false:=by
 by_cases h0 : (F.vl w).m = 0
 ·rw [(ZbJ F w).1 h0]
 ·rw [ZID F hf h0,h]
theorem ZDK (F : Fm) {d : Dy} (nz : Nz d) (hn : d.n = false) : F.ng (sumW F 4 d).1 = false:=by
 unfold sumW
 by_cases h0 : d.m = 0
 ·rw [if_pos h0]; exact ZAd F (decide ((4 : Int) = 5))
 ·rw [if_neg h0,ZEq F (by decide) nz h0,hn]
theorem ZuU (F : Fm) {a b : Nat} (hf : F.fin (uA F a b)) (na : F.ng a = false) (nb : F.ng b = false) : F.ng (uA F a b) = false:=by
 obtain ⟨fa,fb⟩:=Zpf F 4 hf
 unfold uA addW
 rw [ZoV F 4 (Zag.1 fa) (Zag.1 fb)]
 split
 ·rw [na]; exact ZAd F false
 ·obtain ⟨i1,l1⟩:=ZiS (ZkQ fa) (ZkQ fb)
  have nz:=Zgz (ZbJ F a) (ZbJ F b)
  exact ZDK F nz (ZxO nz l1 (by rw [i1]; have:=Zrv F.low (ZqL F fa na); have:=Zrv F.low (ZqL F fb nb); omega))
theorem ZGe (F : Fm) {a b : Nat} (hf : F.fin (uM F a b)) (na : F.ng a = false) (nb : F.ng b = false) : F.ng (uM F a b) = false:=by
 obtain ⟨fa,fb⟩:=ZvB F 4 hf
 unfold uM mulW2
 rw [Zsc F 4 (Zag.1 fa) (Zag.1 fb)]
 split
 ·rw [na,nb]; exact ZAd F false
 ·obtain ⟨i1,l1⟩:=ZlB (ZkQ fa) (ZkQ fb)
  have nz:=Zdo (F.vl a) (F.vl b)
  exact ZDK F nz (ZxO nz l1 (by rw [i1]; exact Int.mul_nonneg (Zrv _ (ZqL F fa na)) (Zrv _ (ZqL F fb nb))))
theorem ZGH (F : Fm) {w : Nat} (hf : F.fin (uS F w)) (nw : F.ng w = false) : F.ng (uS F w) = false:=by
 have fw:=ZvU F 4 hf
 unfold uS scaW at hf ⊢
 split
 ·next q => rw [if_pos q] at hf; exact absurd hf (ZmC F)
 ·split
  ·exact nw
  ·next q1 q2 =>
   by_cases h0 : (shD (F.vl w) (-(F.fr + 1 : Nat))).m = 0
   ·unfold rndW; rw [if_pos h0]; exact ng0 F
   ·rw [ZEq F (by decide) (ZFi (ZbJ F w) _) h0]
    unfold shD
    split
    ·exact ZqL F fw nw
    ·exact ZqL F fw nw
theorem ZxX (F : Fm) {p : Nat × Nat} (hf : F.fin (uN F p)) : F.ng (uN F p) = false:=by
 obtain ⟨f1,f2⟩:=ZAq F hf
 have hi:=ZdJ F
 unfold uN
 rw [ZBN F 4 f1 f2]
 unfold rtW
 by_cases h0 : (sqD F p.1 p.2).m = 0
 ·rw [if_pos h0]; exact ng0 F
 ·rw [if_neg h0]
  unfold rootW
  obtain ⟨r1,r2⟩:=ZoI ((sqD F p.1 p.2).m * 2 ^ rootP (sqD F p.1 p.2).e)
  have hP : rootP (sqD F p.1 p.2).e = 130 + ((sqD F p.1 p.2).e % 2).toNat:=rfl
  have hbp:=Zcz h0
  have hbm:=Zan h0 (rootP (sqD F p.1 p.2).e)
  have hbt : 64 < blen (isq ((sqD F p.1 p.2).m * 2 ^ rootP (sqD F p.1 p.2).e)):=Zjq (k:=64) (M:=(sqD F p.1 p.2).m * 2 ^ rootP (sqD F p.1 p.2).e) (by
   have:=Zbc (n:=(sqD F p.1 p.2).m * 2 ^ rootP (sqD F p.1 p.2).e) (by intro hc; rw [hc,Zai] at hbm; omega)
   rw [← Nat.pow_add]
   exact Nat.le_trans (Nat.pow_le_pow_right (by decide) (by omega)) this) r2
  have hF:=ZtF F
  obtain ⟨s0,o,h,m,hs⟩:=ZyL F false (Q:=isq ((sqD F p.1 p.2).m * 2 ^ rootP (sqD F p.1 p.2).e)) (!decide (isq ((sqD F p.1 p.2).m * 2 ^ rootP (sqD F p.1 p.2).e) * isq ((sqD F p.1 p.2).m * 2 ^ rootP (sqD F p.1 p.2).e) = (sqD F p.1 p.2).m * 2 ^ rootP (sqD F p.1 p.2).e)) (((sqD F p.1 p.2).e - (rootP (sqD F p.1 p.2).e : Nat)) / 2) (by omega)
  have k:=(Zjw F (md:=4) (by decide) false o h m s0).2.2.2
  rw [hs 4 (by decide)]
  exact (ZcR false (by simp only at k; omega)).2
theorem ZFy (F : Fm) (z : Nat × Nat) : ∀ l,F.fin (pE F z l).2→F.ng (pE F z l).2 = false
 | [],_ => ng0 F
 | [a],_ => ng0 F
 | a :: b :: l,hf => by
  have hf' : F.fin (stE F z (pE F z (b :: l)) a).2:=hf
  obtain ⟨f1,f2,f3,f4,f5,f6,f7,f8,f9,f10⟩:=Zyf F hf'
  have ih:=ZFy F z (b :: l) f2
  have two : F.ng 2 = false:=by cases F <;> decide
  exact ZuU F hf' (ZGe F f1 ih (ZxX F f3)) (ZuU F f4 (ZGH F f5 (ZuU F f6 (ZxX F f7) (ZxX F f8))) two)
theorem ZqK (J : Al G T g) (hP : HasK g T) {f : Int} (h : ¬ (f = 1∨f = 2)) {z : Bool} {l : List (Nat × Nat)} {a b : Nat} : run G T 344 [.int .u8 f,ZL z l,zA a b] = some (.int .i64 4):=by
 rw [Zab G T hP.ZjD]
 have h1:=Zpd J (f:=f)
 rw [decide_eq_false h] at h1
 simp only [zA]
 repeat' (first|simp (maxSteps:=9^7) only [seval,exC,ZaU,ZB,h1]|simp (maxSteps:=9^7) (disch:=first|with_reducible assumption|omega) only [dxB]|(simp only [kdB];split)|(simp only [kvB];split))
theorem ZIa {X r : Nat} (h1 : r * r≤X) (h2 : X < (r + 1) * (r + 1)) : isq X = r:=by
 obtain ⟨k1,k2⟩:=ZoI X
 have a : isq X < r + 1:=Nat.lt_of_not_le fun h => absurd (Nat.le_trans (Nat.mul_le_mul h h) k1) (by omega)
 have b : r < isq X + 1:=Nat.lt_of_not_le fun h => absurd (Nat.le_trans (Nat.mul_le_mul h h) h1) (by omega)
 omega
def uNk (F : Fm) (p : Nat × Nat) (r w : Nat) : Bool :=
 let d:=sqD F p.1 p.2
 let X:=d.m * 2 ^ rootP d.e
 decide (zcl (F.cls p.1) (F.cls p.2)≠3) && decide (zcl (F.cls p.1) (F.cls p.2)≠4) && decide (d.m≠0) && decide (r * r≤X) && decide (X < (r + 1) * (r + 1)) && decide ((sW F 4 false r (!decide (r * r = X)) ((d.e - (rootP d.e : Nat)) / 2)).1 = w)
theorem uN_k {F : Fm} {p : Nat × Nat} {r w : Nat} (h : uNk F p r w = true) : uN F p = w:=by
 simp only [uNk,Bool.and_eq_true,decide_eq_true_eq] at h
 obtain ⟨⟨⟨⟨⟨h1,h2⟩,h3⟩,h4⟩,h5⟩,h6⟩:=h
 unfold uN absZ toldW rtW rootW
 rw [if_neg h1,if_neg h2,if_neg h3,ZIa h4 h5]
 exact h6
theorem ZzJ : evE .d (4613937818241073152,0) [(4607182418800017408,0),(4611686018427387904,0)] = ((4619567317775286272,0),4384817187198599169):=by
 have z1 : zM .d (4611686018427387904,0) (4613937818241073152,0) = (4618441417868443648,0):=by decide +kernel
 have z2 : zP .d (4618441417868443648,0) (4607182418800017408,0) = (4619567317775286272,0):=by decide +kernel
 have n1 : uN .d (4613937818241073152,0) = 4613937818241073152:=uN_k (r:=110680464442257309696) (by decide +kernel)
 have n2 : uN .d (4618441417868443648,0) = 4618441417868443648:=uN_k (r:=110680464442257309696) (by decide +kernel)
 have n3 : uN .d (4619567317775286272,0) = 4619567317775286272:=uN_k (r:=258254417031933722624) (by decide +kernel)
 have p1 : pE .d (4613937818241073152,0) [(4607182418800017408,0),(4611686018427387904,0)] = ((4619567317775286272,0),4384817187198599169):=by
  simp only [pE,stE,z1,z2,n1,n2,n3,Prod.mk.injEq,true_and]
  decide +kernel
 unfold evE bdE
 rw [p1,if_neg (by simp),if_pos (by decide +kernel)]
theorem Zya (a b c a' b' c' : Int) : eqsA false [false,false,false] (.agg [.int .u64 a,.int .u64 b,.int .u64 c]) (.agg [.int .u64 a',.int .u64 b',.int .u64 c']) = some (.bool (decide (a = a'∧b = b'∧c = c'))):=by
 simp [eqsA,kindsA,eqCells,Bool.decide_and]
 all_goals rfl
theorem ZAX (a b c a' b' c' : Int) : eqsA true [false,false,false] (.agg [.int .u64 a,.int .u64 b,.int .u64 c]) (.agg [.int .u64 a',.int .u64 b',.int .u64 c']) = some (.bool (!decide (a = a'∧b = b'∧c = c'))):=by
 simp [eqsA,kindsA,eqCells,Bool.decide_and]
 all_goals rfl
theorem ZHv (a b a' b' : Int) : eqsA false [false,false] (.agg [.int .u64 a,.int .u64 b]) (.agg [.int .u64 a',.int .u64 b']) = some (.bool (decide (a = a'∧b = b'))):=by
 simp [eqsA,kindsA,eqCells,Bool.decide_and]
 all_goals rfl
theorem Zzo (a b a' b' : Int) : eqsA true [false,false] (.agg [.int .u64 a,.int .u64 b]) (.agg [.int .u64 a',.int .u64 b']) = some (.bool (!decide (a = a'∧b = b'))):=by
 simp [eqsA,kindsA,eqCells,Bool.decide_and]
 all_goals rfl
theorem ZhI (J : Al G T g) (hP : HasK g T) : run G T 345 [] = some (.bool true):=by
 rw [Zab G T hP.ZhI]
 have e:=ZeO J hP .d (z:=false) (l:=[(4607182418800017408,0),(4611686018427387904,0)]) (a:=4613937818241073152) (b:=0) (by intro a ha; simp at ha; rcases ha with rfl | rfl <;> decide) (by decide) (by decide) (Zow (by decide) ⟨by intro a ha; simp at ha; rcases ha with rfl | rfl <;> (constructor <;> decide),by constructor <;> decide⟩ ⟨by intro a ha; simp at ha; rcases ha with rfl | rfl <;> (constructor <;> decide),by constructor <;> decide⟩) (by decide) (by intro a ha; simp at ha; rcases ha with rfl | rfl <;> (constructor <;> decide)) (by constructor <;> decide)
 rw [ZzJ] at e
 have e' : run G T 342 [.int .u8 2,.imm 2 [.int .u64 4607182418800017408,.int .u64 0,.int .u64 4611686018427387904,.int .u64 0],.agg [.int .u64 4613937818241073152,.int .u64 0]] = some (.tup [.agg [.int .u64 4619567317775286272,.int .u64 0,.int .u64 4384817187198599169],.int .i64 0]):=e
 clear e
 repeat' (first|simp (maxSteps:=9^7) only [seval,exC,ZgE,ZnO,ZeK,e',ZoB,Zya ]|simp (maxSteps:=9^7) (disch:=first|with_reducible assumption|omega) only [dxB,decide]|(simp only [kdB];split)|(simp only [kvB];split))
theorem ZIV (h : Mem) (z : Bool) (l : List (Nat × Nat)) : sliceCells h 2 (ZL z l) = some (l.length,zcells l):=by
 unfold ZL
 split
 ·next q => rw [q.2]; rfl
 ·simp only [sliceCells]; rw [if_pos (Zau l)]
theorem ZpK {bs : List Blk} {f : List Nat} {b : Nat} {z : Bool} {l : List (Nat × Nat)} (hb : bs[b]? = some ⟨[],false⟩) (hf : f.contains b = false) (hl : l.length * 16≤140737488351232) :
  appV ⟨bs,f⟩ 2 16 (.own b 0 0 2) (ZL z l) = some (.own bs.length 0 l.length 2,⟨bs.set b ⟨[],true⟩ ++ [⟨zcells l,false⟩],f⟩):=by
 simp only [appV,ZIV,hb]
 rw [if_pos (by refine ⟨trivial,trivial,hf,by simp,?_⟩; simp only [boundApp]; omega)]
 simp
theorem ZrM {bs : List Blk} {f : List Nat} {b c : Nat} {x y : AV} {l : List (Nat × Nat)} (hb : bs[b]? = some ⟨zcells l,false⟩) (hc : bs[c]? = some ⟨[x,y],false⟩) (hf : f.contains b = false) (hl : l.length * 16≤140737488351232) :
  appV ⟨bs,f⟩ 2 16 (.own b 0 l.length 2) (.own c 0 1 2) = some (.own bs.length 0 (l.length + 1) 2,⟨bs.set b ⟨zcells l,true⟩ ++ [⟨zcells l ++ [x,y],false⟩],f⟩):=by
 have h1:=ZiH bs f c 0 2
 rw [hc] at h1
 have e1 : subB (some ⟨[x,y],false⟩) 0 2 = some [x,y]:=by simp [subB,sub]
 rw [e1] at h1
 simp only [appV,sliceCells,if_true,Nat.one_mul,h1,Option.map_some,hb]
 rw [if_pos (by refine ⟨trivial,trivial,hf,by rw [Zau]; omega,?_⟩; simp only [boundApp]; omega)]
 rw [List.drop_zero,← Zau,List.take_length]
theorem ZmK (F : CallF) (d : Option Nat) (os : List IOper) (e : Env) (h : Heap) (zero : List AV) : evOps G F (⟨d,.bslice 0 2 zero [],none⟩ :: os) e h =
  evOps G F os (putE d (.own h.b.length 0 0 2) e) ⟨h.b ++ [⟨[],false⟩],h.f⟩:=by
 rw [Zgd]; rfl
theorem ZpC {m : Mem} {b n sz j : Nat} {cs : List AV} {k : IntKind} (hb : m b = some ⟨cs,false⟩) (hs : 0 < sz) (hj : j≤max n (cs.length / sz)) :
  evSlice m sz (.own b 0 n sz) none (some (.int k (j : Int))) = some (.own b 0 j sz):=by
 simp only [evSlice,lenA,capA,hb,bound]
 rw [if_neg (by simp),if_neg (by omega),Nat.sub_zero]
 simp only
 rw [if_pos ⟨by omega,by omega,by omega⟩,if_pos ⟨trivial,Or.inl rfl⟩]
 simp
theorem ZpV (F : CallF) (d : Option Nat) (os : List IOper) (e : Env) (h : Heap) (zero : List AV) (ps : List (Nat × Nat × IOpd)) : evOps G F (⟨d,.bslice 1 2 zero ps,none⟩ :: os) e h =
  kBs G F (fillA zero (ps.map fun (o,n,x) => (o,n,opd e x))) (.own h.b.length 0 1 2) d os e h:=by
 have:=Zgd G F d os e h 1 2 zero ps
 rwa [show repA 1 zero = zero by simp [repA]] at this
theorem ZFe (hP : HasK g T) {B : Blk} {z : Bool} {l : List (Nat × Nat)} (hl : l.length * 16≤140737488351232) :
  kJ G Zby.res (evL G T Zby.body (numE 0 [ZL z l]) ⟨[B],[]⟩) = some (.own 4 0 l.length 2,⟨[B,⟨[],true⟩,⟨zcells l,true⟩,⟨[.int .u64 7,.int .u64 7],false⟩,⟨zcells l ++ [.int .u64 7,.int .u64 7],false⟩],[]⟩):=by
 have a1:=ZpK (bs:=[B,⟨[],false⟩]) (f:=[]) (b:=1) (z:=z) (l:=l) rfl rfl hl
 have a2:=ZrM (bs:=[B,⟨[],true⟩,⟨zcells l,false⟩,⟨[.int .u64 7,.int .u64 7],false⟩]) (f:=[]) (b:=2) (c:=3) (x:=.int .u64 7) (y:=.int .u64 7) (l:=l) rfl rfl rfl hl
 have s1:=ZpC (m:=Heap.mem ⟨[B,⟨[],true⟩,⟨zcells l,true⟩,⟨[.int .u64 7,.int .u64 7],false⟩,⟨zcells l ++ [.int .u64 7,.int .u64 7],false⟩],[]⟩) (b:=4) (n:=l.length + 1) (sz:=2) (j:=l.length) (k:=.i64) rfl (by decide) (by omega)
 repeat' (first|simp (maxSteps:=9^7) only [seval,exC,Zby,numE,ZmK,ZpV,ZB,a1,a2,s1]|simp (maxSteps:=9^7) (disch:=first|with_reducible assumption|omega) only [dxB]|(simp only [kdB];split)|(simp only [kvB];split))
theorem Zqi {l : List (Nat × Nat)} {i : Nat} {w : List AV} (h : i < l.length) : ((zcells l ++ w).drop (i * 2)).take 2 = [.int .u64 ((zc l i).1 : Int),.int .u64 ((zc l i).2 : Int)]:=by
 rw [List.drop_append_of_le_length (by rw [Zau]; omega),List.take_append_of_le_length (by rw [List.length_drop,Zau]; omega),ZnP h]
theorem ZAu (e : Env) (h : Heap) : evL G T Zeu e h = kS G T (evL G T Zei (keepE [0,1,5,6] e) h) Zeu:=Zae G T rfl e h
theorem Zub {k : Nat} {z : Bool} {l : List (Nat × Nat)} {w : List AV} {bs : List Blk} {f : List Nat} (hl : l.length * 16≤140737488351232) (hb : bs[k]? = some ⟨zcells l ++ w,false⟩) : ∀ (m i : Nat),i + m = l.length →
  evL G T Zeu [(0,.own k 0 l.length 2),(1,ZL z l),(5,.own k 0 (l.length + 1) 2),(6,.int .i64 (i : Int))] ⟨bs,f⟩ =
   some (.exit 0,[(0,.own k 0 l.length 2),(1,ZL z l),(5,.own k 0 (l.length + 1) 2),(6,.int .i64 (l.length : Int)),(15,.bool false)],⟨bs,f⟩)
 | 0,i,hi => by
  have he : i = l.length:=by omega
  subst he
  have hn : ¬ (l.length : Int) < (l.length : Int):=by omega
  rw [ZAu]
  repeat' (first|simp (maxSteps:=9^7) only [seval,exC,Zei,ZB,hn]|simp (maxSteps:=9^7) (disch:=first|with_reducible assumption|omega) only [dxB]|(simp only [kdB];split)|(simp only [kvB];split))
 | m + 1,i,hi => by
  have hil : i < l.length:=by omega
  have hlt : (i : Int) < (l.length : Int):=by omega
  have t1 : ((i : Int)).toNat = i:=Int.toNat_natCast i
  have w1 : IntKind.i64.wrap ((i : Int) + 1) = ((i + 1 : Nat) : Int):=by rw [Zac (by omega)]; rfl
  have ia:=Zgx (z:=z) (l:=l) (k:=.i64) (j:=(i : Int)) ⟨by omega,by omega⟩
  rw [t1] at ia
  have rd:=fun mm => rd_Z (G:=G) mm hil
  have io : iaddrV 2 (.own k 0 l.length 2) (.int .i64 (i : Int)) = some (.ptr k (i * 2)):=by
   rw [iaddrV,if_pos ⟨by omega,by omega,rfl⟩,t1,Nat.zero_add]
  have ro : rdAt G (Heap.mem ⟨bs,f⟩) 2 (.ptr k (i * 2)) = some [.int .u64 ((zc l i).1 : Int),.int .u64 ((zc l i).2 : Int)]:=by
   rw [rdAt,ZiH,hb,Zja,sub,if_pos (by rw [List.length_append,Zau]; omega),Zqi hil]
  rw [← Zub hl hb m (i + 1) (by omega)]
  rw [ZAu]
  repeat' (first|simp (maxSteps:=9^7) only [seval,exC,Zei,hlt,ia,rd,io,ro,ZB,w1,ZoB,Zzo,and_self,decide_true,Bool.not_true]|simp (maxSteps:=9^7) (disch:=first|with_reducible assumption|omega) only [dxB]|(simp only [kdB];split)|(simp only [kvB];split))
theorem Zsg {k : Nat} {z : Bool} {l : List (Nat × Nat)} {bs : List Blk} {f : List Nat} (hl : l.length * 16≤140737488351232) (hb : bs[k]? = some ⟨zcells l ++ [.int .u64 7,.int .u64 7],false⟩) :
  kJ G ZdR.res (evL G T ZdR.body (numE 0 [.own k 0 l.length 2,ZL z l]) ⟨bs,f⟩) = some (.bool true,⟨bs,f⟩):=by
 have lp:=Zub (G:=G) (T:=T) (z:=z) (f:=f) hl hb l.length 0 (by omega)
 have w1 : IntKind.i64.wrap ((l.length : Int) + 1) = ((l.length + 1 : Nat) : Int):=by rw [Zac (by omega)]; rfl
 have s1:=ZpC (m:=Heap.mem ⟨bs,f⟩) (b:=k) (n:=l.length) (sz:=2) (j:=l.length + 1) (k:=.i64) (cs:=zcells l ++ [.int .u64 7,.int .u64 7]) (show Heap.mem ⟨bs,f⟩ k = some ⟨zcells l ++ [.int .u64 7,.int .u64 7],false⟩ from hb) (by decide) (by rw [List.length_append,Zau]; simp only [List.length_cons,List.length_nil]; omega)
 have io : iaddrV 2 (.own k 0 (l.length + 1) 2) (.int .i64 (l.length : Int)) = some (.ptr k (l.length * 2)):=by
  rw [iaddrV,if_pos ⟨by omega,by omega,rfl⟩,Int.toNat_natCast,Nat.zero_add]
 have ro : rdAt G (Heap.mem ⟨bs,f⟩) 2 (.ptr k (l.length * 2)) = some [.int .u64 7,.int .u64 7]:=by
  rw [rdAt,ZiH,hb,Zja,sub,if_pos (by rw [List.length_append,Zau]; simp),← Zau,List.drop_left,List.take_of_length_le (by simp)]
 simp only [cast0] at lp
 repeat' (first|simp (maxSteps:=9^7) only [seval,exC,ZdR,numE,ZB,lp,w1,s1,io,ro,ZoB,ZHv,and_self,decide_true]|simp (maxSteps:=9^7) (disch:=first|with_reducible assumption|omega) only [dxB]|(simp only [kdB];split)|(simp only [kvB];split))
theorem Ztk (gg : Nat→Nat→Nat→Nat→Option AV) : ∀ l : List (Nat × Nat),snapL gg (zcells l) = some (zcells l)
 | [] => rfl
 | p :: l => by rw [zcells,Zmy,Zmy,Ztk gg l,Zqp,Zqp,Zfw,Zfw]
theorem sg_Z {h : Mem} {b d : Nat} {l : List (Nat × Nat)} (hr : rdBlk h b 0 (l.length * 2) = some (zcells l)) : snapG h (d + 1) b 0 l.length 2 = some (ZL false l):=by
 simp only [snapG]; rw [hr]; simp only; rw [Ztk]; unfold ZL; rw [if_neg (by simp)]; rfl
theorem Zpt {bs : List Blk} {f : List Nat} {k : Nat} {l : List (Nat × Nat)} {w : List AV} (hb : bs[k]? = some ⟨zcells l ++ w,false⟩) : rdBlk (Heap.mem ⟨bs,f⟩) k 0 (l.length * 2) = some (zcells l):=by
 rw [ZiH,hb,Zja,sub,if_pos (by rw [List.length_append,Zau]; omega),List.drop_zero,← Zau,List.take_left]
theorem ZsZ (J : Al G T g) {f : Int} (h : ¬ (f = 1∨f = 2)) : run G T 196 [.int .u8 f] = some (.tup [.int .u64 0,.int .i64 4]):=by
 have h0 : run G T 58 [.int .u8 f,.bool false,.fn 204 []] = some (.tup [.int .u64 0,.int .i64 4]):=by
  rw [Zab G T J.D.Zfg]
  have h1:=ZtB J h (v:=.nil)
  simp only [sh0] at *
  repeat' (first|simp (maxSteps:=9^7) only [seval,exC,Zgr,h1]|simp (maxSteps:=9^7) (disch:=first|with_reducible assumption|omega) only [dxB]|(simp only [kdB];split)|(simp only [kvB];split))
 rw [Zab G T J.U.Zgg]
 repeat' (first|simp (maxSteps:=9^7) only [seval,exC,ZhG,h0]|simp (maxSteps:=9^7) (disch:=first|with_reducible assumption|omega) only [dxB]|(simp only [kdB];split)|(simp only [kvB];split))
theorem Zth (J : Al G T g) (hP : HasK g T) {f : Int} (h : ¬ (f = 1∨f = 2)) {z : Bool} {l : List (Nat × Nat)} {a b : Nat} : run G T 375 [.int .u8 f,ZL z l,zA a b] = some (.int .i64 4):=by
 rw [Zab G T hP.Zjs]
 have n1:=ZsZ J h
 simp only [zA]
 repeat' (first|simp (maxSteps:=9^7) only [seval,exC,ZbG,ZB,n1]|simp (maxSteps:=9^7) (disch:=first|with_reducible assumption|omega) only [dxB]|(simp only [kdB];split)|(simp only [kvB];split))
theorem zasked (J : Al G T g) (hP : HasK g T) {f : Int} {z : Bool} {l : List (Nat × Nat)} {a b : Nat} (h64 : W64 l) (ha : a < 18446744073709551616) (hb : b < 18446744073709551616) :
  (∃ e,e≠0∧∀ y,run G T 344 [.int .u8 f,ZL y l,zA a b] = some (.int .i64 e)∧run G T 375 [.int .u8 f,ZL y l,zA a b] = some (.int .i64 e)) ∨
  (∃ F,f = Fm.u F∧(∀ y,run G T 344 [.int .u8 f,ZL y l,zA a b] = some (.int .i64 0))∧opC F l (a,b) = 0∧¬ 41 < l.length∧Zws F l∧Zw F (a,b)∧Zfs F l∧Zf F (a,b)):=by
 by_cases hf : f = 1∨f = 2
 ·obtain ⟨F,rfl⟩:=ZIK hf
  have o:=fun y => ZjD J hP F (z:=y) h64 ha hb
  have p:=fun y => Zjs J hP F (z:=y) h64 ha hb
  by_cases h1 : 41 < l.length
  ·rw [Zrw (F:=F) (p:=(a,b)) h1] at o p; exact Or.inl ⟨3,by decide,fun y => ⟨o y,p y⟩⟩
  ·by_cases h2 : Zws F l∧Zw F (a,b)
   ·by_cases h3 : Zfs F l∧Zf F (a,b)
    ·have e:=Zow h1 h2 h3
     rw [e] at o
     exact Or.inr ⟨F,rfl,o,e,h1,h2.1,h2.2,h3.1,h3.2⟩
    ·rw [Zpe h1 h2 h3] at o p; exact Or.inl ⟨7,by decide,fun y => ⟨o y,p y⟩⟩
   ·rw [ZmW h1 h2] at o p; exact Or.inl ⟨6,by decide,fun y => ⟨o y,p y⟩⟩
 ·exact Or.inl ⟨4,by decide,fun y => ⟨ZqK J hP hf,Zth J hP hf⟩⟩
theorem ZAp (a b c d : Int) (bs : List Nat) : fz1 (.tup [.agg [.int .u64 a,.int .u64 b,.int .u64 c],.int .i64 d]) bs = []:=rfl
set_option maxHeartbeats 8000000 in
theorem ZkI (J : Al G T g) (hP : HasK g T) {f : Int} {z : Bool} {l : List (Nat × Nat)} {a b : Nat} (h64 : W64 l) (ha : a < 18446744073709551616) (hb : b < 18446744073709551616) (hq : l.length * 16≤140737488351232) :
  run G T 321 [.int .u8 f,ZL z l,.agg [.int .u64 (a : Int),.int .u64 (b : Int)]] = some (.bool true):=by
 rw [Zab G T hP.ZkI]
 have hK:=ZhI J hP
 have hL:=ZFe (G:=G) hP (B:=⟨[.int .u64 (a : Int),.int .u64 (b : Int)],false⟩) (z:=z) hq
 have hk:=fun r => Zsg (G:=G) (T:=T) (k:=4) (z:=z) (l:=l) (bs:=[⟨[.int .u64 (a : Int),.int .u64 (b : Int)],false⟩,⟨[],true⟩,⟨zcells l,true⟩,⟨[.int .u64 7,.int .u64 7],false⟩,⟨zcells l ++ [.int .u64 7,.int .u64 7],false⟩,r]) (f:=[]) hq rfl
 have sg:=sg_Z (d:=2) (Zpt (bs:=[⟨[.int .u64 (a : Int),.int .u64 (b : Int)],false⟩,⟨[],true⟩,⟨zcells l,true⟩,⟨[.int .u64 7,.int .u64 7],false⟩,⟨zcells l ++ [.int .u64 7,.int .u64 7],false⟩]) (f:=[]) (k:=4) (l:=l) rfl)
 simp only [numE,Nat.zero_add] at hL hk
 have c1:=ZfH G T hP.law27_lent
 have c2:=ZfH G T hP.law27_kept
 rcases zasked J hP (f:=f) (z:=z) h64 ha hb with ⟨e,he,o⟩ | ⟨F,rfl,o1,oc,hl,hw,hp,hf,fp⟩
 ·have o1:=(o z).1
  have ev:=ZrP J hP he (o false).2 (fun gg => sn_Z gg false l)
  simp only [zA,vlA] at *
  repeat' (first|simp (maxSteps:=9^7) only [seval,exC,Zbz,ZB,ZAp,c1,c2,hL,hk,sg,o1,he,ev,hK,ZoB,Zya,and_self,decide_true]|simp (maxSteps:=9^7) (disch:=first|with_reducible assumption|omega) only [dxB]|(simp only [kdB];split)|(simp only [kvB];split))
 ·have ev:=ZeO J hP F (z:=false) h64 ha hb oc hl hw hp
  have rv:=Zop J hP F (z:=z) hl hw hp
  have o1:=o1 z
  generalize evE F (a,b) l = V at *
  simp only [zA,vlA] at *
  repeat' (first|simp (maxSteps:=9^7) only [seval,exC,Zbz,ZB,ZAp,c1,c2,hL,hk,sg,o1,ev,rv,hK,ZoB,Zya,and_self,decide_true]|simp (maxSteps:=9^7) (disch:=first|with_reducible assumption|omega) only [dxB]|(simp only [kdB];split)|(simp only [kvB];split))
theorem ZkB {F : Fm} {a b : Nat} (h : Near F a b) : F.cls a = F.cls b:=by
 rcases h with rfl | ⟨h1,h2⟩
 ·rfl
 ·rw [h1,h2]
theorem ZqE {F : Fm} {a b : Nat} (ha : a < 2 * F.sg) (hb : b < 2 * F.sg) (h : Near F a b) : F.vl a = F.vl b:=by
 rcases h with rfl | ⟨h1,h2⟩
 ·rfl
 ·have e1:=(ZbO ha (Zag.2 (Or.inl h1))).1 h1
  have e2:=(ZbO hb (Zag.2 (Or.inl h2))).1 h2
  rw [(ZbJ F a).1 e1,(ZbJ F b).1 e2]
theorem ZGj {F : Fm} {a b : Nat} (h : Near F a b) (h1 : F.cls a≠1) : F.ng a = F.ng b:=by
 rcases h with rfl | ⟨h2,_⟩
 ·rfl
 ·exact absurd h2 h1
theorem Zxj (F : Fm) (n m : Bool) : Near F (F.sgn n) (F.sgn m):=Or.inr ⟨(ZaE F n).2.2.1,(ZaE F m).2.2.1⟩
theorem ZcZ (F : Fm) (a : Nat) : Near F a a:=Or.inl rfl
theorem Zrf {F : Fm} (md : Int) {a a' b : Nat} (ha : a < 2 * F.sg) (ha' : a' < 2 * F.sg) (hb : b < 2 * F.sg) (h : Near F a a') : Near F (addW F md a b).1 (addW F md a' b).1:=by
 have ec:=ZkB h
 have ev:=ZqE ha ha' h
 unfold addW
 rw [← ec,← ev]
 by_cases h1 : F.cls a = 1
 ·have z1:=(ZbO ha (Zag.2 (Or.inl h1))).1 h1
  unfold addP
  rw [h1]
  simp only [show ¬ (1 : Int) = 5 by decide,show ¬ (1 : Int) = 4 by decide,false_or,false_and,if_false,true_and]
  by_cases h5 : F.cls b = 5
  ·rw [if_pos h5,if_pos h5]; exact ZcZ F _
  rw [if_neg h5,if_neg h5]
  by_cases h4 : F.cls b = 4
  ·rw [if_pos h4,if_pos h4]; exact ZcZ F _
  rw [if_neg h4,if_neg h4]
  by_cases hb1 : F.cls b = 1
  ·have z2:=(ZbO hb (Zag.2 (Or.inl hb1))).1 hb1
   have e0 : addD (F.vl a) (F.vl b) = ⟨false,0,0⟩:=by
    rw [(ZbJ F a).1 z1,(ZbJ F b).1 z2]; rfl
   have hs : sumW F md (addD (F.vl a) (F.vl b)) = (F.sgn (decide (md = 5)),0):=by unfold sumW; rw [e0]; rfl
   rw [hs]
   split <;> split <;> exact Zxj F _ _
  ·rw [if_neg (fun q => hb1 q.1),if_neg (fun q => hb1 q.1)]; exact ZcZ F _
 ·rw [ZGj h h1]; exact ZcZ F _
def Nsd (p q : Int × Bool) : Prop:=p.1 = q.1∧(p.1≠0→p.2 = q.2)
theorem ZAR (p : Int × Bool) : Nsd p p:=⟨rfl,fun _ => rfl⟩
theorem ZAw {F : Fm} {a b : Nat} (inf : Bool) (h : Near F a b) : Nsd (sd F a inf) (sd F b inf):=by
 rcases h with rfl | ⟨h1,h2⟩
 ·exact ZAR _
 ·unfold sd Nsd
  rw [h1,h2]
  cases inf <;> simp
theorem ZrO {p q r : Int × Bool} (h : Nsd p q) : Nsd (sT p r) (sT q r):=by
 obtain ⟨h1,h2⟩:=h
 unfold sT Nsd
 refine ⟨by simp only [h1],fun hn => ?_⟩
 have : p.1≠0:=fun q0 => hn (by simp [q0])
 simp only [h2 this]
theorem ZFv {p q : Int × Bool} (h : Nsd p q) : Nsd (sM p) (sM q):=by
 obtain ⟨h1,h2⟩:=h
 unfold sM Nsd
 refine ⟨by simp only [h1],fun hn => ?_⟩
 have : p.1≠0:=fun q0 => hn (by simp [q0])
 simp only [h2 this]
theorem ZAx {md : Int} {p q r s : Int × Bool} (h : Nsd p q) (k : Nsd r s) : Nsd (sP md p r) (sP md q s):=by
 obtain ⟨h1,h2⟩:=h
 obtain ⟨k1,k2⟩:=k
 unfold sP
 rw [← h1,← k1]
 by_cases h0 : p.1 + r.1≠0
 ·rw [if_pos h0,if_pos h0]; exact ZAR _
 ·rw [if_neg h0,if_neg h0]
  have z1 : (if p.1 = 0∧p.2 = r.2 then p else (0,decide (md = 5))).1 = 0:=by split <;> simp_all
  have z2 : (if p.1 = 0∧q.2 = s.2 then q else (0,decide (md = 5))).1 = 0:=by split <;> simp_all
  exact ⟨by rw [z1,z2],fun q => absurd z1 q⟩
theorem ZqY (F : Fm) {p q : Int × Bool} (h : Nsd p q) : Near F (sideW F (F.inf false) p) (sideW F (F.inf false) q):=by
 obtain ⟨h1,h2⟩:=h
 by_cases h0 : p.1 = 0
 ·have z : ∀ b : Bool,F.cls (if b = true then F.min 0 else 0) = 1:=by cases F <;> intro b <;> cases b <;> decide
  have e : ∀ r : Int × Bool,r.1 = 0→F.cls (sideW F (F.inf false) r) = 1:=fun r hr => by
   have:=z r.2
   unfold sideW
   simp only [hr,ne_eq,not_true_eq_false,if_false]
   exact this
  exact Or.inr ⟨e p h0,e q (by rw [← h1]; exact h0)⟩
 ·have : p = q:=Prod.ext h1 (h2 h0)
  rw [this]; exact ZcZ F _
def Nz2 (F : Fm) (p q : Nat × Nat) : Prop:=Near F p.1 q.1∧Near F p.2 q.2
theorem ZBX {F : Fm} {y y' z : Nat × Nat} (hy : Zw F y) (hy' : Zw F y') (h : Nz2 F y y') : Nz2 F (zM F y z) (zM F y' z):=by
 obtain ⟨h1,h2⟩:=h
 have c1:=ZkB h1
 have c2:=ZkB h2
 have v1:=ZqE hy.1 hy'.1 h1
 have v2:=ZqE hy.2 hy'.2 h2
 have es : smS F y'.1 y'.2 z.1 z.2 = smS F y.1 y.2 z.1 z.2:=by unfold smS; rw [c1,c2]
 unfold zM mulZ
 rw [es]
 by_cases hs : smS F y.1 y.2 z.1 z.2 = true
 ·rw [if_pos hs,if_pos hs]
  unfold smW
  rw [← c1,← c2]
  split
  ·exact ⟨ZcZ F _,ZcZ F _⟩
  ·split
   ·exact ⟨ZcZ F _,ZcZ F _⟩
   ·split
    ·exact ⟨ZcZ F _,ZcZ F _⟩
    ·have b1 : Nsd (bx F y.1 y.2).1 (bx F y'.1 y'.2).1:=by unfold bx; rw [← c1,← c2]; exact ZAw _ h1
     have b2 : Nsd (bx F y.1 y.2).2 (bx F y'.1 y'.2).2:=by unfold bx; rw [← c1,← c2]; exact ZAw _ h2
     unfold smP bxT
     exact ⟨ZqY F (ZAx (ZrO b1) (ZFv (ZrO b2))),ZqY F (ZAx (ZrO b1) (ZrO b2))⟩
 ·rw [if_neg hs,if_neg hs]
  have pt : ∀ (x x' w w' : Dy × Bool),x.1 = x'.1→w.1 = w'.1→Near F (tw F 1 x w oneD).1 (tw F 1 x' w' oneD).1:=by
   intro x x' w w' e1 e2
   unfold tw ptQ
   rw [← e1,← e2]
   split
   ·exact Zxj F _ _
   ·exact ZcZ F _
  unfold mulR
  refine ⟨pt _ _ _ _ ?_ ?_,pt _ _ _ _ ?_ ?_⟩ <;> (unfold tm; simp only [v1,v2])
theorem ZCe {F : Fm} {p p' a : Nat × Nat} (hp : Zw F p) (hp' : Zw F p') (ha : Zw F a) (h : Nz2 F p p') : Nz2 F (zP F p a) (zP F p' a) :=
 ⟨Zrf 1 hp.1 hp'.1 ha.1 h.1,Zrf 1 hp.2 hp'.2 ha.2 h.2⟩
theorem ZwD {F : Fm} {p p' : Nat × Nat} (hp : Zw F p) (hp' : Zw F p') (h : Nz2 F p p') : uN F p = uN F p':=by
 unfold uN absZ sqD
 rw [ZkB h.1,ZkB h.2,ZqE hp.1 hp'.1 h.1,ZqE hp.2 hp'.2 h.2]
def Bel (F : Fm) (a b : Nat) : Prop:=a≤b∧∀ L,L≤-2000→iv (F.vl a) L≤iv (F.vl b) L
theorem ZFa {F : Fm} {w : Nat} (hw : w < 2 * F.sg) (h : F.ng w = false) : w % F.sg = w:=by
 have:=ZCk F hw
 rw [h] at this
 unfold Fm.sgn at this
 simpa using this.symm
theorem ZEr {F : Fm} {w : Nat} (hw : w < 2 * F.sg) (h : F.ng w = false) : pl F w = w:=by
 unfold pl; rw [h,ZFa hw h]; rfl
theorem ZDw {F : Fm} {a b : Nat} (ha : a < 2 * F.sg) (hb : b < 2 * F.sg) (fa : F.fin a) (fb : F.fin b) (na : F.ng a = false) (nb : F.ng b = false) (h : a≤b) : Bel F a b:=by
 refine ⟨h,fun L hL => ?_⟩
 have c:=(ZHl F ha hb fa fb).2
 rw [ZEr ha na,ZEr hb nb] at c
 have : ¬ 0 < cmpD (F.val a) (F.val b):=fun q => by have:=c.1 q; omega
 rw [← Zbm fa,← Zbm fb,Zou (LoEv fa hL) (LoEv fb hL)] at this
 rcases Int.lt_or_le (iv (F.vl b) L) (iv (F.vl a) L) with q | q
 ·exact absurd (Zus.2.2 q) this
 ·exact q
theorem Zyz (F : Fm) {d e : Dy} (hd : d.n = false) (he : e.n = false) {L : Int} (ld : LoE d L) (le : LoE e L) (h : iv d L≤iv e L) : (sumW F 4 d).1≤(sumW F 4 e).1:=by
 unfold sumW
 by_cases d0 : d.m = 0
 ·rw [if_pos d0]
  have : F.sgn (decide ((4 : Int) = 5)) = 0:=by cases F <;> decide
  simp only [this]; exact Nat.zero_le _
 ·have e0 : e.m≠0:=fun q => by
   rw [Zbs q] at h
   have h2:=Zrv L hd
   have : iv d L = 0:=by omega
   rcases ZrS d L with ⟨q1,_⟩ | ⟨_,q2⟩
   ·rw [q1] at this
    have:=Nat.pos_of_ne_zero d0
    have:=Nat.mul_pos this (Nat.two_pow_pos (d.e - L).toNat)
    omega
   ·rw [hd] at q2; cases q2
  rw [if_neg d0,if_neg e0,Zvt F 4 d0,Zvt F 4 e0,hd,he]
  have k1:=ZHn ld d0
  have k2:=ZHn le e0
  have hl : ∀ K,K≤L→iv d K≤iv e K:=fun K hK => by
   rw [Zrx ld hK,Zrx le hK]
   exact Int.mul_le_mul_of_nonneg_right h (Int.natCast_nonneg _)
  have h2:=hl (min L F.low - 1) (by omega)
  have key:=ZqF F 4 (a:=e) (b:=d) e0 d0 (by rw [hd,he]) (L:=min L F.low - 1) (by omega) (by omega) (by omega) (by
   rcases ZrS d (min L F.low - 1) with ⟨q1,_⟩ | ⟨_,q2⟩
   ·rcases ZrS e (min L F.low - 1) with ⟨q3,_⟩ | ⟨_,q4⟩
    ·rw [q1,q3] at h2; exact Int.ofNat_le.1 h2
    ·rw [he] at q4; cases q4
   ·rw [hd] at q2; cases q2)
  omega
theorem ZDy (F : Fm) {a b : Nat} (ha : a < 2 * F.sg) (hb : b < 2 * F.sg) (fa : F.fin a) (fb : F.fin b) (na : F.ng a = false) (nb : F.ng b = false) : uA F a b = (sumW F 4 (addD (F.vl a) (F.vl b))).1:=by
 unfold uA addW
 rw [ZoV F 4 (Zag.1 fa) (Zag.1 fb)]
 by_cases hz : F.cls a = 1∧F.cls b = 1∧F.ng a = F.ng b
 ·rw [if_pos hz,(ZbJ F a).1 ((ZbO ha fa).1 hz.1),(ZbJ F b).1 ((ZbO hb fb).1 hz.2.1),na]
  have e0 : addD ⟨false,0,0⟩ ⟨false,0,0⟩ = ⟨false,0,0⟩:=rfl
  rw [e0]
  cases F <;> decide
 ·rw [if_neg hz]
theorem ZCK (F : Fm) {a b : Nat} (ha : a < 2 * F.sg) (hb : b < 2 * F.sg) (fa : F.fin a) (fb : F.fin b) (na : F.ng a = false) (nb : F.ng b = false) : uM F a b = (sumW F 4 (mulD (F.vl a) (F.vl b))).1:=by
 unfold uM mulW2
 rw [Zsc F 4 (Zag.1 fa) (Zag.1 fb)]
 by_cases hz : F.cls a = 1∨F.cls b = 1
 ·rw [if_pos hz,na,nb]
  have e0 : mulD (F.vl a) (F.vl b) = ⟨false,0,0⟩:=by
   rcases hz with h | h
   ·exact Zly (Or.inl ((ZbO ha fa).1 h))
   ·exact Zly (Or.inr ((ZbO hb fb).1 h))
  rw [e0]
  cases F <;> decide
 ·rw [if_neg hz]
theorem ZCS (F : Fm) {w w' : Nat} (hw' : w' < 2 * F.sg) (f : F.fin w') (n : F.ng w' = false) (h : w≤w') : F.fin w:=by
 have h5 : F.cls w'≠5:=by have:=Zag.1 f; omega
 have h1:=(Zzg F hw' h5).2.1 f
 rw [ZFa hw' n] at h1
 have:=Zdl (F:=F) (s:=w) false (by omega)
 have e : F.sgn false = 0:=by cases F <;> decide
 rw [e] at this
 exact this
theorem ZCi (F : Fm) {z a : Nat × Nat} (wz : Zw F z) (wa : Zw F a) {s s' : (Nat × Nat) × Nat} (ws : Zw F s.1∧s.2 < 2 * F.sg) (ws' : Zw F s'.1∧s'.2 < 2 * F.sg) (h : Nz2 F s.1 s'.1)
  (hb : F.fin s'.2→F.fin s.2∧F.ng s.2 = false∧F.ng s'.2 = false∧s.2≤s'.2) :
  Nz2 F (stE F z s a).1 (stE F z s' a).1∧(F.fin (stE F z s' a).2→F.fin (stE F z s a).2∧F.ng (stE F z s a).2 = false∧F.ng (stE F z s' a).2 = false∧(stE F z s a).2≤(stE F z s' a).2):=by
 have np:=ZBX (z:=z) ws.1 ws'.1 h
 have wp:=zM_w F s.1 z
 have wp':=zM_w F s'.1 z
 have nq:=ZCe wp wp' wa np
 refine ⟨nq,fun hf => ?_⟩
 have e1:=ZwD wp wp' np
 have e2:=ZwD (zP_w F _ a) (zP_w F _ a) nq
 obtain ⟨f1,f2,f3,f4,f5,f6,f7,f8,_,_⟩:=Zyf F hf
 obtain ⟨g1,g2,g3,g4⟩:=hb f2
 have two : F.ng 2 = false:=by cases F <;> decide
 have nU:=ZuU F f4 (ZGH F f5 (ZuU F f6 (ZxX F f7) (ZxX F f8))) two
 have nR:=ZxX F f3
 have hR : uN F z < 2 * F.sg:=Zup F z
 unfold stE at hf ⊢
 simp only at hf ⊢
 rw [e1,e2]
 have hU : uA F (uS F (uA F (uN F (zM F s'.1 z)) (uN F (zP F (zM F s'.1 z) a)))) 2 < 2 * F.sg:=ZjF F (by decide)
 generalize uA F (uS F (uA F (uN F (zM F s'.1 z)) (uN F (zP F (zM F s'.1 z) a)))) 2 = U at *
 generalize uN F z = R at *
 have b1:=ZDw ws.2 ws'.2 g1 f2 g2 g3 g4
 have nM':=ZGe F f1 g3 nR
 have hM : uM F s.2 R < 2 * F.sg:=Zst F (by decide)
 have hM' : uM F s'.2 R < 2 * F.sg:=Zst F (by decide)
 have lM : uM F s.2 R≤uM F s'.2 R:=by
  rw [ZCK F ws.2 hR g1 f3 g2 nR,ZCK F ws'.2 hR f2 f3 g3 nR]
  obtain ⟨i1,l1⟩:=ZlB (LoEv g1 (show (-2000 : Int)≤-2000 by decide)) (LoEv f3 (show (-2000 : Int)≤-2000 by decide))
  obtain ⟨i2,l2⟩:=ZlB (LoEv f2 (show (-2000 : Int)≤-2000 by decide)) (LoEv f3 (show (-2000 : Int)≤-2000 by decide))
  have n0:=Zrv (x:=F.vl s.2) (-2000) (ZqL F g1 g2)
  have nr:=Zrv (x:=F.vl R) (-2000) (ZqL F f3 nR)
  have n1:=b1.2 (-2000) (by decide)
  have k:=Int.mul_le_mul_of_nonneg_right n1 nr
  have k0:=Int.mul_nonneg n0 nr
  exact Zyz F (ZxO (Zdo _ _) l1 (by rw [i1]; exact k0)) (ZxO (Zdo _ _) l2 (by rw [i2]; omega)) l1 l2 (by rw [i1,i2]; exact k)
 have fM:=ZCS F hM' f1 nM' lM
 have nM:=ZGe F fM g2 nR
 have b2:=ZDw hM hM' fM f1 nM nM' lM
 have lA : uA F (uM F s.2 R) U≤uA F (uM F s'.2 R) U:=by
  rw [ZDy F hM hU fM f4 nM nU,ZDy F hM' hU f1 f4 nM' nU]
  obtain ⟨i1,l1⟩:=ZiS (LoEv fM (show (-2000 : Int)≤-2000 by decide)) (LoEv f4 (show (-2000 : Int)≤-2000 by decide))
  obtain ⟨i2,l2⟩:=ZiS (LoEv f1 (show (-2000 : Int)≤-2000 by decide)) (LoEv f4 (show (-2000 : Int)≤-2000 by decide))
  have n0:=Zrv (x:=F.vl (uM F s.2 R)) (-2000) (ZqL F fM nM)
  have nu:=Zrv (x:=F.vl U) (-2000) (ZqL F f4 nU)
  have n1:=b2.2 (-2000) (by decide)
  exact Zyz F (ZxO (Zgz (ZbJ F _) (ZbJ F _)) l1 (by rw [i1]; omega)) (ZxO (Zgz (ZbJ F _) (ZbJ F _)) l2 (by rw [i2]; omega)) l1 l2 (by rw [i1,i2]; omega)
 have nA':=ZuU F hf nM' nU
 have fA:=ZCS F (ZjF F (by decide)) hf nA' lA
 exact ⟨fA,ZuU F fA nM nU,nA',lA⟩
theorem zM_0 (F : Fm) {z : Nat × Nat} (fz : Zf F z) : F.cls (zM F (0,0) z).1 = 1∧F.cls (zM F (0,0) z).2 = 1:=by
 have c0 : F.cls 0 = 1:=by cases F <;> decide
 have z0 : (0 : Nat) < 2 * F.sg:=by cases F <;> decide
 have v0 : F.vl 0 = ⟨false,0,0⟩:=(ZbJ F 0).1 ((ZbO z0 (Zag.2 (Or.inl c0))).1 c0)
 have h0 : zcl (F.cls 0) (F.cls 0)≤2:=by rw [c0]; decide
 have hs : smS F 0 0 z.1 z.2 = false:=by
  unfold smS; rw [decide_eq_true ⟨h0,(ZgZ F).1 fz⟩]; rfl
 have m0 : ∀ d,mulD ⟨false,0,0⟩ d = ⟨false,0,0⟩:=fun d => Zly (Or.inl rfl)
 have n0 : negD ⟨false,0,0⟩ = ⟨false,0,0⟩:=rfl
 have a0 : (addD ⟨false,0,0⟩ ⟨false,0,0⟩).m = 0:=rfl
 unfold zM mulZ
 rw [if_neg (by rw [hs]; decide)]
 unfold mulR tw tm ptQ
 simp only [v0,m0,n0,if_true,Bool.false_eq_true,if_false,a0]
 exact ⟨(ZaE F _).2.2.1,(ZaE F _).2.2.1⟩
theorem ZDs (F : Fm) {n a : Nat} (hn : n < 2 * F.sg) (ha : a < 2 * F.sg) (h : F.cls n = 1) (fa : F.fin a) : Near F a (addW F 1 n a).1:=by
 have vn:=(ZbJ F n).1 ((ZbO hn (Zag.2 (Or.inl h))).1 h)
 unfold addW
 rw [ZoV F 1 (Or.inl h) (Zag.1 fa),vn]
 by_cases hz : F.cls n = 1∧F.cls a = 1∧F.ng n = F.ng a
 ·rw [if_pos hz]; exact Or.inr ⟨hz.2.1,(ZaE F _).2.2.1⟩
 ·rw [if_neg hz]
  have e : addD ⟨false,0,0⟩ (F.vl a) = F.vl a:=by
   obtain ⟨i1,l1⟩:=ZiS (a:=⟨false,0,0⟩) (b:=F.vl a) (L := -2000) (Or.inl rfl) (LoEv fa (by decide))
   exact Zvc (Zgz ⟨fun _ => rfl,fun q => absurd rfl q⟩ (ZbJ F a)) (ZbJ F a) l1 (LoEv fa (by decide)) (by rw [i1,Zbs rfl,Int.zero_add])
  rw [e]
  by_cases h1 : F.cls a = 1
  ·refine Or.inr ⟨h1,?_⟩
   have:=(ZbO ha fa).1 h1
   unfold sumW; rw [if_pos this]; exact (ZaE F (decide ((1 : Int) = 5))).2.2.1
  ·have hm : (F.vl a).m≠0:=fun q => h1 ((ZbO ha fa).2 q)
   have h5 : F.cls a≠5:=by have:=Zag.1 fa; omega
   have hi:=(Zzg F ha h5).2.1 fa
   have hp:=ZCk F ha
   have s0 : a % F.sg≠0:=fun q => by
    rw [q,Nat.zero_add] at hp
    rw [hp] at h1
    exact h1 (ZaE F _).2.2.1
   have r:=(Zla F 1 (F.ng a) hi s0).1
   rw [← hp,← Zbm fa] at r
   unfold sumW
   rw [if_neg hm,r]
   exact ZcZ F _
theorem few (F : Fm) {z : Nat × Nat} (wz : Zw F z) (fz : Zf F z) : ∀ (l : List (Nat × Nat)),l≠[]→Zws F l→Zfs F l →
  Nz2 F (pE F z l).1 (pE F z (l ++ [(0,0)])).1∧(F.fin (pE F z (l ++ [(0,0)])).2→F.fin (pE F z l).2∧F.ng (pE F z l).2 = false∧F.ng (pE F z (l ++ [(0,0)])).2 = false∧(pE F z l).2≤(pE F z (l ++ [(0,0)])).2)
 | [],h,_,_ => absurd rfl h
 | [a],_,hw,hf => by
  have wa:=hw a (List.mem_cons_self ..)
  have fa:=hf a (List.mem_cons_self ..)
  have e : pE F z ([a] ++ [(0,0)]) = stE F z ((0,0),0) a:=rfl
  have zc:=zM_0 F fz
  have wp:=zM_w F (0,0) z
  have z0 : F.ng 0 = false:=ng0 F
  refine ⟨?_,fun q => ⟨show F.fin 0 from Zag.2 (Or.inl (by cases F <;> decide)),z0,?_,Nat.zero_le _⟩⟩
  ·rw [e]
   exact ⟨ZDs F wp.1 wa.1 zc.1 fa.1,ZDs F wp.2 wa.2 zc.2 fa.2⟩
  ·exact ZFy F z _ q
 | a :: b :: l,_,hw,hf => by
  have wa:=hw a (List.mem_cons_self ..)
  have hw' : Zws F (b :: l):=fun c hc => hw c (List.mem_cons_of_mem _ hc)
  have hf' : Zfs F (b :: l):=fun c hc => hf c (List.mem_cons_of_mem _ hc)
  have z0 : (0 : Nat) < 2 * F.sg:=by cases F <;> decide
  have hw2 : Zws F (b :: l ++ [(0,0)]):=fun c hc => by
   rcases List.mem_append.1 hc with q | q
   ·exact hw' c q
   ·rw [List.mem_singleton.1 q]; exact ⟨z0,z0⟩
  obtain ⟨i1,i2⟩:=few F wz fz (b :: l) (by simp) hw' hf'
  have e : pE F z (a :: b :: l ++ [(0,0)]) = stE F z (pE F z (b :: l ++ [(0,0)])) a:=rfl
  have e' : pE F z (a :: b :: l) = stE F z (pE F z (b :: l)) a:=rfl
  rw [e,e']
  exact ZCi F wz wa (pE_w F z _ hw') (pE_w F z _ hw2) i1 i2
theorem ZHd (F : Fm) {z : Nat × Nat} (wz : Zw F z) (fz : Zf F z) {l : List (Nat × Nat)} (h : l≠[]) (hw : Zws F l) (hf : Zfs F l) :
  Nz2 F (evE F z l).1 (evE F z (l ++ [(0,0)])).1∧(evE F z l).2≤(evE F z (l ++ [(0,0)])).2:=by
 obtain ⟨h1,h2⟩:=few F wz fz l h hw hf
 have ws:=pE_w F z l hw
 unfold evE
 rw [if_neg h,if_neg (by simp)]
 refine ⟨h1,?_⟩
 simp only
 have hle : bdE F (pE F z l)≤F.inf false:=by
  unfold bdE
  split
  ·next q =>
   have n:=ZFy F z l q.2.2
   have h5 : F.cls (pE F z l).2≠5:=by have:=Zag.1 q.2.2; omega
   have:=(Zzg F ws.2 h5).1
   rw [ZFa ws.2 n] at this
   have e : F.inf false = F.i0:=by cases F <;> decide
   omega
  ·exact Nat.le_refl _
 by_cases q : F.fin (pE F z (l ++ [(0,0)])).1.1∧F.fin (pE F z (l ++ [(0,0)])).1.2∧F.fin (pE F z (l ++ [(0,0)])).2
 ·obtain ⟨k1,k2,k3,k4⟩:=h2 q.2.2
  have c1 : F.fin (pE F z l).1.1:=by rw [Zag,ZkB h1.1,← Zag]; exact q.1
  have c2 : F.fin (pE F z l).1.2:=by rw [Zag,ZkB h1.2,← Zag]; exact q.2.1
  unfold bdE
  rw [if_pos q,if_pos ⟨c1,c2,k1⟩]
  exact k4
 ·have e : bdE F (pE F z (l ++ [(0,0)])) = F.inf false:=by unfold bdE; rw [if_neg q]
  rw [e]; exact hle
def fI (F : Fm) (k : Nat) : Nat:=(rndW F 1 (intD (k : Int))).1
theorem ZCD (F : Fm) (k : Nat) : fI F k < 2 * F.sg:=ZAt F (by decide) _
theorem Zwo (n : Nat) : intD (n : Int) = mkD false n 0:=by
 unfold intD; rw [decide_eq_false (by omega),Int.natAbs_natCast]
theorem Zwn {n : Nat} (h : n≤41) (h0 : n≠0) : tz n≤5:=by
 have hs:=(Zev h0).1
 rcases Nat.lt_or_ge 5 (tz n) with q | q
 ·exfalso
  have h2 : 2 ^ 6≤2 ^ tz n:=Nat.pow_le_pow_right (by decide) q
  have h3 : n / 2 ^ tz n≠0:=fun q0 => by rw [q0,Nat.zero_mul] at hs; exact h0 hs
  have h4 : 1 * 2 ^ tz n≤n / 2 ^ tz n * 2 ^ tz n:=Nat.mul_le_mul_right _ (Nat.pos_of_ne_zero h3)
  rw [Nat.one_mul] at h4
  have h5 : 2 ^ 6≤n:=Nat.le_trans (Nat.le_trans h2 h4) (Nat.le_of_eq hs.symm)
  omega
 ·exact q
theorem ZDL {n : Nat} (h : n≤41) : Bd (intD (n : Int)) 6:=by
 rw [Zwo]
 have hb : blen n≤6:=Zaf.2 (by rw [show (2 : Nat) ^ 6 = 64 from rfl]; omega)
 by_cases h0 : n = 0
 ·subst h0
  exact ⟨by decide,by decide,by decide⟩
 ·have ht:=Zwn h h0
  rw [Zal h0]
  exact ⟨Nat.le_trans (Zam (Nat.div_le_self _ _)) hb,by simp only; omega,by simp only; omega⟩
theorem ZoL (J : Al G T g) {n : Nat} (h : n≤41) : ∃ z,run G T 272 [.int .i64 (n : Int)] = some (DyA z (intD (n : Int))):=by
 rw [Zab G T J.J.ZoL,Zwo]
 obtain ⟨z1,r1⟩:=Zpk J (n:=n) (by omega)
 have hb : blen n≤6:=Zaf.2 (by rw [show (2 : Nat) ^ 6 = 64 from rfl]; omega)
 have ht : n = 0∨(-16777216≤(0 : Int) + tz n∧(0 : Int) + tz n≤16777216):=by
  by_cases h0 : n = 0
  ·exact Or.inl h0
  ·have:=Zwn h h0
   right; omega
 obtain ⟨z2,r2⟩:=ZbS J (n:=false) (z:=z1) (a:=n) (e:=0) (Zak (by omega)) ht (by omega)
 refine ⟨z2,?_⟩
 have w1 : (n : Int) % 18446744073709551616 = (n : Int):=by omega
 have w0 : ¬ (n : Int) < 0:=by omega
 generalize mkD false n 0 = d at *
 generalize dl n = l at *
 generalize (n : Int) = m at *
 simp only [DyA,A3] at *
 repeat' (first|simp (maxSteps:=9^7) only [seval,exC,Zjt,w1,w0,r1,r2]|simp (maxSteps:=9^7) (disch:=first|with_reducible assumption|omega) only [dxB]|(simp only [kdB];split)|(simp only [kvB];split))
theorem Zlp (J : Al G T g) (hP : HasK g T) (F : Fm) {n : Nat} (h : n≤41) : run G T 382 [.int .u8 F.u,.int .u8 1,.int .i64 (n : Int)] = some (.tup [.int .u64 (fI F n : Int),.int .u8 ((rndW F 1 (intD (n : Int))).2 : Int),.int .i64 0]):=by
 rw [Zab G T hP.Zlp]
 obtain ⟨z,d1⟩:=ZoL J h
 have nz : Nz (intD (n : Int)):=ZoH _ _ _
 have r1:=Zht J F (m:=1) (by decide) (z:=z) (d:=intD (n : Int)) (ZaL nz ((ZDL h).mono (by decide)))
 unfold fI
 generalize rndW F 1 (intD (n : Int)) = R at *
 generalize intD (n : Int) = d at *
 generalize (n : Int) = m at *
 simp only [DyA,A3] at *
 repeat' (first|simp (maxSteps:=9^7) only [seval,exC,ZfC,d1,r1]|simp (maxSteps:=9^7) (disch:=first|with_reducible assumption|omega) only [dxB]|(simp only [kdB];split)|(simp only [kvB];split))
theorem ZkG (J : Al G T g) (hP : HasK g T) (F : Fm) {n : Nat} (h : n≤41) : run G T 383 [.int .u8 F.u,.int .u8 1,.int .i64 (n : Int)] = some (.tup [.int .u64 (fI F n : Int),.int .u8 ((rndW F 1 (intD (n : Int))).2 : Int)]):=by
 rw [Zab G T hP.ZkG]
 obtain ⟨z,d1⟩:=Znc J (n:=(n : Int)) (by omega) (by omega)
 have nz : Nz (intD (n : Int)):=ZoH _ _ _
 have r1:=ZcE J F (m:=1) (by decide) (z:=z) (x:=intD (n : Int)) nz ((ZDL h).mono (by decide))
 unfold fI
 generalize rndW F 1 (intD (n : Int)) = R at *
 generalize intD (n : Int) = d at *
 generalize (n : Int) = m at *
 simp only [DyA,A3] at *
 repeat' (first|simp (maxSteps:=9^7) only [seval,exC,ZeB,d1,r1]|simp (maxSteps:=9^7) (disch:=first|with_reducible assumption|omega) only [dxB]|(simp only [kdB];split)|(simp only [kvB];split))
def elD (F : Fm) (k : Nat) (a : Nat × Nat) : Nat × Nat:=((mulW2 F 1 (fI F k) a.1).1,(mulW2 F 1 (fI F k) a.2).1)
def drv (F : Fm) : Nat→List (Nat × Nat)→List (Nat × Nat)
 | _,[] => []
 | k,a :: l => elD F k a :: drv F (k + 1) l
theorem ZyP (F : Fm) : ∀ (k : Nat) (a b : List (Nat × Nat)),drv F k (a ++ b) = drv F k a ++ drv F (k + a.length) b
 | k,[],b => by simp [drv]
 | k,x :: a,b => by
  simp only [List.cons_append,drv,ZyP F (k + 1) a b,List.length_cons]
  rw [show k + 1 + a.length = k + (a.length + 1) by omega]
theorem ZBh (F : Fm) : ∀ (k : Nat) (a : List (Nat × Nat)),(drv F k a).length = a.length
 | _,[] => rfl
 | k,x :: a => by simp only [drv,List.length_cons,ZBh F (k + 1) a]
def dT (F : Fm) (l : List (Nat × Nat)) (i : Nat) : List (Nat × Nat):=drv F 1 ((l.take i).drop 1)
def dE (F : Fm) (l : List (Nat × Nat)) : List (Nat × Nat):=drv F 1 (l.drop 1)
theorem Zyx (F : Fm) (l : List (Nat × Nat)) : dT F l l.length = dE F l:=by unfold dT dE; rw [List.take_length]
theorem ZqT (F : Fm) {l : List (Nat × Nat)} {i : Nat} (h : i≤l.length) : (dT F l i).length = i - 1:=by
 unfold dT; rw [ZBh,List.length_drop,List.length_take]; omega
theorem ZAA (F : Fm) {l : List (Nat × Nat)} {i : Nat} (h1 : 1≤i) (h : i < l.length) : dT F l (i + 1) = dT F l i ++ [elD F i (zc l i)]:=by
 unfold dT
 have e : l.take (i + 1) = l.take i ++ [zc l i]:=by rw [ZFE h,List.take_add_one,List.getElem?_eq_getElem h]; rfl
 rw [e,List.drop_append_of_le_length (by rw [List.length_take]; omega),ZyP]
 congr 1
 simp only [drv]
 rw [List.length_drop,List.length_take,show 1 + (min i l.length - 1) = i by omega]
def outV (i b : Nat) : AV:=if i≤1 then .nil else .own b 0 (i - 1) 2
theorem Zzv {hs : List Blk} {c b i : Nat} {x y : AV} {L : List (Nat × Nat)} (h1 : 1≤i) (hi : i≤1000) (hc : hs[c]? = some ⟨[x,y],false⟩) (hL : L.length = i - 1) (hb : 1 < i→hs[b]? = some ⟨zcells L,false⟩) :
  ∃ b2 hs2,appV ⟨hs,[]⟩ 2 16 (outV i b) (.own c 0 1 2) = some (outV (i + 1) b2,⟨hs2,[]⟩)∧b2 = hs.length∧hs2[b2]? = some ⟨zcells L ++ [x,y],false⟩∧(∀ j,j < hs.length→(1 < i→j≠b)→hs2[j]? = hs[j]?):=by
 have h2:=ZiH hs [] c 0 2
 rw [hc] at h2
 have e1 : subB (some ⟨[x,y],false⟩) 0 2 = some [x,y]:=by simp [subB,sub]
 rw [e1] at h2
 by_cases q : i = 1
 ·subst q
  have hL0 : L = []:=List.length_eq_zero_iff.1 hL
  subst hL0
  refine ⟨hs.length,hs ++ [⟨[x,y],false⟩],?_,rfl,?_,fun j hj _ => ?_⟩
  ·simp only [appV,sliceCells,if_true,Nat.one_mul,h2,Option.map_some,outV]
   rfl
  ·rw [List.getElem?_append_right (Nat.le_refl _),Nat.sub_self]; rfl
  ·rw [List.getElem?_append_left hj]
 ·have hb:=hb (by omega)
  have hlt:=(List.getElem?_eq_some_iff.1 hb).1
  have zl:=Zau L
  refine ⟨hs.length,hs.set b ⟨zcells L,true⟩ ++ [⟨zcells L ++ [x,y],false⟩],?_,rfl,?_,fun j hj hne => ?_⟩
  ·rw [show outV i b = .own b 0 (i - 1) 2 from if_neg (by omega),show outV (i + 1) hs.length = .own hs.length 0 (i + 1 - 1) 2 from if_neg (by omega)]
   simp only [appV,sliceCells,if_true,Nat.one_mul,h2,Option.map_some,hb]
   rw [if_pos (by refine ⟨trivial,trivial,rfl,by rw [zl]; omega,?_⟩; simp only [boundApp]; omega)]
   rw [List.drop_zero,List.take_of_length_le (by rw [zl]; omega),show i - 1 + 1 = i + 1 - 1 by omega]
  ·rw [List.getElem?_append_right (by simp),List.length_set,Nat.sub_self]; rfl
  ·rw [List.getElem?_append_left (by simpa using hj),List.getElem?_set,if_neg (fun e => hne (by omega) e.symm)]
theorem Zqs (L : List (Nat × Nat)) (p : Nat × Nat) : zcells L ++ [.int .u64 (p.1 : Int),.int .u64 (p.2 : Int)] = zcells (L ++ [p]):=by rw [Zos]; rfl
theorem ZGk (k off : Nat) (cs : List AV) : faddrA k (.iptr cs off) = some (.iptr cs (off + k)):=rfl
theorem Zut (e : Env) (h : Heap) : evL G T ZdA e h = kS G T (evL G T Zck (keepE [0,1,5,6] e) h) ZdA:=Zae G T rfl e h
set_option maxHeartbeats 8000000 in
theorem ZkL (J : Al G T g) (hP : HasK g T) (F : Fm) {l : List (Nat × Nat)} {z : Bool} (hl : l.length≤41) (hw : Zws F l) : ∀ (m i b : Nat) (bs : List Blk),1≤i→i + m = l.length→(1 < i→bs[b]? = some ⟨zcells (dT F l i),false⟩) →
  ∃ b' bs',evL G T ZdA [(0,.int .u8 F.u),(1,ZL z l),(5,outV i b),(6,.int .i64 (i : Int))] ⟨bs,[]⟩ =
   some (.exit 0,[(0,.int .u8 F.u),(1,ZL z l),(5,outV l.length b'),(6,.int .i64 (l.length : Int)),(16,.bool false)],⟨bs',[]⟩)∧(1 < l.length→bs'[b']? = some ⟨zcells (dT F l l.length),false⟩)
 | 0,i,b,bs,h1,hi,hb => by
  have he : i = l.length:=by omega
  subst he
  have hn : ¬ (l.length : Int) < (l.length : Int):=by omega
  refine ⟨b,bs,?_,hb⟩
  rw [Zut]
  generalize outV l.length b = o at *
  repeat' (first|simp (maxSteps:=9^7) only [seval,exC,Zck,ZB,hn]|simp (maxSteps:=9^7) (disch:=first|with_reducible assumption|omega) only [dxB]|(simp only [kdB];split)|(simp only [kvB];split))
 | m + 1,i,b,bs,h1,hi,hb => by
  have hil : i < l.length:=by omega
  have hlt : (i : Int) < (l.length : Int):=by omega
  have wa:=hw _ (Zms hil)
  have t1 : ((i : Int)).toNat = i:=Int.toNat_natCast i
  have w1 : IntKind.i64.wrap ((i : Int) + 1) = ((i + 1 : Nat) : Int):=by rw [Zac (by omega)]; rfl
  have ia:=Zgx (z:=z) (l:=l) (k:=.i64) (j:=(i : Int)) ⟨by omega,by omega⟩
  rw [t1] at ia
  have rd0:=fun mm => ZFR (G:=G) mm hil
  have rd0':=fun mm => ZGI (G:=G) mm hil
  have rd1:=fun mm => ZGm (G:=G) mm hil
  have f1:=ZkG J hP F (n:=i) (by omega)
  have u1:=Zem J F (md:=1) (by decide) (ZCD F i) wa.1
  have u2:=Zem J F (md:=1) (by decide) (ZCD F i) wa.2
  have eE : elD F i (zc l i) = ((mulW2 F 1 (fI F i) (zc l i).1).1,(mulW2 F 1 (fI F i) (zc l i).2).1):=rfl
  obtain ⟨b2,hs2,ap,_,hb2,_⟩:=Zzv (hs:=bs ++ [⟨[.int .u64 ((elD F i (zc l i)).1 : Int),.int .u64 ((elD F i (zc l i)).2 : Int)],false⟩]) (c:=bs.length) (b:=b) (i:=i) (L:=dT F l i) h1 (by omega) (by rw [List.getElem?_append_right (Nat.le_refl _),Nat.sub_self]; rfl) (ZqT F (by omega)) (fun q => by
   have:=hb q
   rw [List.getElem?_append_left (List.getElem?_eq_some_iff.1 this).1]; exact this)
  rw [Zqs,← ZAA F h1 hil] at hb2
  rw [eE] at ap
  dsimp only at ap
  obtain ⟨b',bs',ih,hfin⟩:=ZkL J hP F (z:=z) hl hw m (i + 1) _ hs2 (by omega) (by omega) (fun _ => hb2)
  refine ⟨b',bs',?_,hfin⟩
  rw [← ih,Zut]
  generalize outV i b = o at *
  generalize outV (i + 1) b2 = o2 at *
  generalize mulW2 F 1 (fI F i) (zc l i).1 = M1 at *
  generalize mulW2 F 1 (fI F i) (zc l i).2 = M2 at *
  generalize fI F i = w at *
  generalize (rndW F 1 (intD (i : Int))).2 = fl at *
  generalize zc l i = a at *
  clear hb hb2 hfin
  repeat' (first|simp (maxSteps:=9^7) only [seval,exC,Zck,ZGk,hlt,ia,rd0,rd0',rd1,f1,u1,u2,ZpV,ap,ZB,w1]|simp (maxSteps:=9^7) (disch:=first|with_reducible assumption|omega) only [dxB]|(simp only [kdB];split)|(simp only [kvB];split))
theorem ZIO (F : Fm) {l : List (Nat × Nat)} (h : 1 < l.length) : dE F l≠[]:=fun q => by
 have:=ZqT F (l:=l) (Nat.le_refl _)
 rw [Zyx,q] at this
 simp at this; omega
theorem ZAj (F : Fm) {l : List (Nat × Nat)} (h : l.length≤1) : dE F l = []:=by
 unfold dE
 rw [List.drop_eq_nil_of_le h]; rfl
theorem ZIW {l : List (Nat × Nat)} (h : l≠[]) : ZL true l = ZL false l:=by rw [ZBw h,ZBw h]
theorem ZCV (F : Fm) {l : List (Nat × Nat)} {bs : List Blk} {b : Nat} (h : 1 < l.length) (hb : bs[b]? = some ⟨zcells (dT F l l.length),false⟩) : snapG (Heap.mem ⟨bs,[]⟩) 3 b 0 (l.length - 1) 2 = some (ZL true (dE F l)):=by
 have:=sg_Z (d:=2) (Zpt (bs:=bs) (f:=[]) (k:=b) (l:=dT F l l.length) (w:=[]) (by rw [List.append_nil]; exact hb))
 rw [ZqT F (Nat.le_refl _),Zyx] at this
 rw [ZIW (ZIO F h)]; exact this
set_option maxHeartbeats 8000000 in
theorem ZmD (J : Al G T g) (hP : HasK g T) (F : Fm) {l : List (Nat × Nat)} {z : Bool} (hl : ¬ 41 < l.length) (hw : Zws F l) : run G T 353 [.int .u8 F.u,ZL z l] = some (ZL true (dE F l)):=by
 rw [Zab G T hP.ZmD]
 by_cases h0 : l.length = 0
 ·have hn : (l.length : Int) = 0:=by omega
  rw [ZAj F (by omega),show ZL true [] = AV.nil from rfl]
  repeat' (first|simp (maxSteps:=9^7) only [seval,exC,Zdj,Zut,Zck,ZB,hn]|simp (maxSteps:=9^7) (disch:=first|with_reducible assumption|omega) only [dxB]|(simp only [kdB];split)|(simp only [kvB];split))
 ·obtain ⟨b',bs',lp,hfin⟩:=ZkL J hP F (z:=z) (by omega) hw (l.length - 1) 1 0 [] (by omega) (by omega) (fun q => absurd q (by omega))
  rw [show outV 1 0 = AV.nil from rfl,show (((1 : Nat)) : Int) = 1 from rfl,show (⟨[],[]⟩ : Heap) = Heap.nil from rfl] at lp
  by_cases h1 : l.length = 1
  ·rw [ZAj F (by omega),show ZL true [] = AV.nil from rfl]
   rw [show outV l.length b' = AV.nil from if_pos (by omega)] at lp
   repeat' (first|simp (maxSteps:=9^7) only [seval,exC,Zdj,ZB,lp]|simp (maxSteps:=9^7) (disch:=first|with_reducible assumption|omega) only [dxB]|(simp only [kdB];split)|(simp only [kvB];split))
  ·have sg:=ZCV F (by omega) (hfin (by omega))
   rw [show outV l.length b' = AV.own b' 0 (l.length - 1) 2 from if_neg (by omega)] at lp
   repeat' (first|simp (maxSteps:=9^7) only [seval,exC,Zdj,ZB,lp,sg]|simp (maxSteps:=9^7) (disch:=first|with_reducible assumption|omega) only [dxB]|(simp only [kdB];split)|(simp only [kvB];split))
theorem ZrX (e : Env) (h : Heap) : evL G T ZbR e h = kS G T (evL G T ZbP (keepE [0,7,26,27,28] e) h) ZbR:=Zae G T rfl e h
theorem ZyY {k n i : Nat} (h : i < n) : iaddrV 2 (.own k 0 n 2) (.int .i64 (i : Int)) = some (.ptr k (i * 2)):=by
 rw [iaddrV,if_pos ⟨by omega,by omega,rfl⟩,Int.toNat_natCast,Nat.zero_add]
theorem ZCT {bs : List Blk} {f : List Nat} {k i : Nat} {l : List (Nat × Nat)} {w : List AV} (h : i < l.length) (hb : bs[k]? = some ⟨zcells l ++ w,false⟩) : rdAt G (Heap.mem ⟨bs,f⟩) 2 (.ptr k (i * 2)) = some [.int .u64 ((zc l i).1 : Int),.int .u64 ((zc l i).2 : Int)]:=by
 rw [rdAt,ZiH,hb,Zja,sub,if_pos (by rw [List.length_append,Zau]; omega),Zqi h]
set_option maxHeartbeats 8000000 in
theorem Zlf (J : Al G T g) (hP : HasK g T) (F : Fm) {l : List (Nat × Nat)} {k : Nat} {w : List AV} (hl : l.length≤41) (hw : Zws F l) : ∀ (m i b : Nat) (bs : List Blk),1≤i→i + m = l.length→bs[k]? = some ⟨zcells l ++ w,false⟩→(1 < i→bs[b]? = some ⟨zcells (dT F l i),false⟩∧b≠k) →
  ∃ b' bs',evL G T ZbR [(0,.int .u8 F.u),(7,outV i b),(26,.own k 0 l.length 2),(27,.int .i64 (l.length : Int)),(28,.int .i64 (i : Int))] ⟨bs,[]⟩ =
   some (.exit 0,[(0,.int .u8 F.u),(7,outV l.length b'),(26,.own k 0 l.length 2),(27,.int .i64 (l.length : Int)),(28,.int .i64 (l.length : Int)),(29,.bool false)],⟨bs',[]⟩)∧bs'[k]? = some ⟨zcells l ++ w,false⟩∧(1 < l.length→bs'[b']? = some ⟨zcells (dT F l l.length),false⟩∧b'≠k)
 | 0,i,b,bs,h1,hi,hk,hb => by
  have he : i = l.length:=by omega
  subst he
  have hn : ¬ (l.length : Int) < (l.length : Int):=by omega
  refine ⟨b,bs,?_,hk,hb⟩
  rw [ZrX]
  generalize outV l.length b = o at *
  repeat' (first|simp (maxSteps:=9^7) only [seval,exC,ZbP,ZB,hn]|simp (maxSteps:=9^7) (disch:=first|with_reducible assumption|omega) only [dxB]|(simp only [kdB];split)|(simp only [kvB];split))
 | m + 1,i,b,bs,h1,hi,hk,hb => by
  have hil : i < l.length:=by omega
  have hlt : (i : Int) < (l.length : Int):=by omega
  have hne : ¬ (i : Int) = 0:=by omega
  have wa:=hw _ (Zms hil)
  have w1 : IntKind.i64.wrap ((i : Int) + 1) = ((i + 1 : Nat) : Int):=by rw [Zac (by omega)]; rfl
  have io:=ZyY (k:=k) hil
  have ro:=ZCT (G:=G) (f:=[]) hil hk
  have f1:=Zlp J hP F (n:=i) (by omega)
  have u1:=Znf J F (md:=1) (by decide) (ZCD F i) wa.1
  have u2:=Znf J F (md:=1) (by decide) (ZCD F i) wa.2
  have eE : elD F i (zc l i) = ((mulW2 F 1 (fI F i) (zc l i).1).1,(mulW2 F 1 (fI F i) (zc l i).2).1):=rfl
  have hkl:=(List.getElem?_eq_some_iff.1 hk).1
  obtain ⟨b2,hs2,ap,hb2e,hb2,fr⟩:=Zzv (hs:=bs ++ [⟨[.int .u64 ((zc l i).1 : Int),.int .u64 ((zc l i).2 : Int)],false⟩,⟨[.int .u64 ((elD F i (zc l i)).1 : Int),.int .u64 ((elD F i (zc l i)).2 : Int)],false⟩]) (c:=bs.length + 1) (b:=b) (i:=i) (L:=dT F l i) h1 (by omega) (by rw [List.getElem?_append_right (by omega),Nat.add_sub_cancel_left]; rfl) (ZqT F (by omega)) (fun q => by
   have:=(hb q).1
   rw [List.getElem?_append_left (List.getElem?_eq_some_iff.1 this).1]; exact this)
  rw [Zqs,← ZAA F h1 hil] at hb2
  rw [eE] at ap
  dsimp only at ap
  have hk2 : hs2[k]? = some ⟨zcells l ++ w,false⟩:=by
   rw [fr k (by rw [List.length_append]; omega) (fun q e => (hb q).2 e.symm),List.getElem?_append_left hkl]; exact hk
  obtain ⟨b',bs',ih,hfk,hfin⟩:=Zlf J hP F (w:=w) hl hw m (i + 1) _ hs2 (by omega) (by omega) hk2 (fun _ => ⟨hb2,by rw [hb2e,List.length_append]; simp only [List.length_cons,List.length_nil]; omega⟩)
  refine ⟨b',bs',?_,hfk,hfin⟩
  rw [← ih,ZrX]
  generalize outV i b = o at *
  generalize outV (i + 1) b2 = o2 at *
  generalize mulW2 F 1 (fI F i) (zc l i).1 = M1 at *
  generalize mulW2 F 1 (fI F i) (zc l i).2 = M2 at *
  generalize fI F i = ww at *
  generalize (rndW F 1 (intD (i : Int))).2 = fl at *
  generalize zc l i = a at *
  clear hb hb2 hfin hfk hk2 fr hb2e
  repeat' (first|simp (maxSteps:=9^7) only [seval,exC,ZbP,gaB,hlt,hne,io,ro,f1,u1,u2,ZpV,ap,w1]|simp (maxSteps:=9^7) (disch:=first|with_reducible assumption|omega) only [dxB]|(simp only [kdB];split)|(simp only [kvB];split))
def kTr (o : Option (Env × Heap)) : Option (Ex × Env × Heap):=o.map fun r => (.norm,r.1,r.2)
theorem ZBY (e : Env) (h : Heap) : kTr (some (e,h)) = some (.norm,e,h):=rfl
theorem ZGx (ops : List IOper) (t : OT) (l : List Nat) (e : Env) (h : Heap) : evL G T (.tree ops t l) e h = kTr (evT G (CF G T) ops (finT l) t e h):=ZCh G T ops t l e h
noncomputable def kTi (F : CallF) (ops : List IOper) (fin : Env→Heap→Option (Env × Heap)) (t : OT) (o : Option IOper) (e : Env) (h : Heap) : Option (Env × Heap):=match o with
 | some o => (evOps G F [o] e h).bind fun r => evT G F ops fin t r.1 r.2
 | none => none
noncomputable def kT (F : CallF) (ops : List IOper) (fin : Env→Heap→Option (Env × Heap)) (t : OT) (o : Option (Env × Heap)) : Option (Env × Heap):=o.bind fun r => evT G F ops fin t r.1 r.2
theorem ZGr (F : CallF) (ops : List IOper) (fin : Env→Heap→Option (Env × Heap)) (i : Nat) (t : OT) (e : Env) (h : Heap) : evT G F ops fin (.op i t) e h = kTi (G:=G) F ops fin t ops[i]? e h:=by
 simp only [evT,kTi]
 cases ops[i]? <;> rfl
theorem ZBT (F : CallF) (ops : List IOper) (fin : Env→Heap→Option (Env × Heap)) (t : OT) (o : IOper) (e : Env) (h : Heap) : kTi (G:=G) F ops fin t (some o) e h = kT (G:=G) F ops fin t (evOps G F [o] e h):=rfl
theorem ZFV (F : CallF) (ops : List IOper) (fin : Env→Heap→Option (Env × Heap)) (t : OT) (e : Env) (h : Heap) : kT (G:=G) F ops fin t (some (e,h)) = evT G F ops fin t e h:=rfl
theorem ZFn (F : CallF) (ops : List IOper) (fin : Env→Heap→Option (Env × Heap)) (a b : OT) (e : Env) (h : Heap) : evT G F ops fin (.alt a b) e h = bothO (evT G F ops fin a e h) (evT G F ops fin b e h):=rfl
theorem ZBM (F : CallF) (ops : List IOper) (l : List Nat) (e : Env) (h : Heap) : evT G F ops (finT l) .done e h = some (keepE l e,h):=rfl
theorem ZxI {α : Type} (x : α) : bothO (some x) (some x) = some x:=by simp [bothO]
theorem Zmf (J : Al G T g) (hP : HasK g T) (F : Fm) {a b : Nat} (ha : a < 2 * F.sg) (hb : b < 2 * F.sg) (h : Near F a b) : run G T 350 [.int .u8 F.u,.int .u64 (a : Int),.int .u64 (b : Int)] = some (.bool true):=by
 rw [Zab G T hP.Zmf]
 have c1:=Zav J F (Zce ha)
 have c2:=Zav J F (Zce hb)
 by_cases e : (a : Int) = b
 ·repeat' (first|simp (maxSteps:=9^7) only [seval,exC,ZfX,e]|simp (maxSteps:=9^7) (disch:=first|with_reducible assumption|omega) only [dxB]|(simp only [kdB];split)|(simp only [kvB];split))
 ·rcases h with h | ⟨h1,h2⟩
  ·exfalso; omega
  ·rw [h1] at c1
   rw [h2] at c2
   repeat' (first|simp (maxSteps:=9^7) only [seval,exC,ZfX,e,c1,c2]|simp (maxSteps:=9^7) (disch:=first|with_reducible assumption|omega) only [dxB]|(simp only [kdB];split)|(simp only [kvB];split))
theorem ZCq (m : Mem) {z : Bool} {l : List (Nat × Nat)} (h : l≠[]) : evSlice m 2 (ZL z l) none (some (.int .i64 1)) = some (ZL false [zc l 0]):=by
 have hl : 0 < l.length:=List.length_pos_iff.2 h
 rw [ZBw h]
 simp only [evSlice,lenA,capA,bound]
 rw [if_pos ⟨by omega,by omega,by omega⟩,if_pos (Zau l)]
 show some (AV.imm 1 (((zcells l).drop (0 * 2)).take 2)) = _
 rw [ZnP hl]
 rfl
theorem ZFm (F : Fm) {p a : Nat × Nat} (fa : Zf F a) : evE F p [a] = (a,0):=by
 have f0 : F.fin 0:=Zag.2 (Or.inl (by cases F <;> decide))
 unfold evE
 rw [if_neg (by simp)]
 show (a,bdE F (a,0)) = _
 unfold bdE
 rw [if_pos ⟨fa.1,fa.2,f0⟩]
set_option maxHeartbeats 32000000 in
theorem Zna (J : Al G T g) (hP : HasK g T) {f : Int} {z : Bool} {l : List (Nat × Nat)} {a b : Nat} (h64 : W64 l) (ha : a < 18446744073709551616) (hb : b < 18446744073709551616) :
  run G T 324 [.int .u8 f,ZL z l,.agg [.int .u64 (a : Int),.int .u64 (b : Int)]] = some (.bool true):=by
 rw [Zab G T hP.Zna]
 have hK:=ZhI J hP
 rcases zasked J hP (f:=f) (z:=z) h64 ha hb with ⟨e,he,o⟩ | ⟨F,rfl,o1,oc,hl,hw,hp,hf,fp⟩
 ·have o1:=(o z).1
  simp only [zA,vlA] at *
  repeat' (first|simp (maxSteps:=9^7) only [seval,exC,Zbp,ZB,o1,he,hK]|simp (maxSteps:=9^7) (disch:=first|with_reducible assumption|omega) only [dxB]|(simp only [kdB];split)|(simp only [kvB];split))
 ·have o1:=o1 z
  by_cases h40 : (40 : Int) < (l.length : Int)
  ·simp only [zA,vlA] at *
   repeat' (first|simp (maxSteps:=9^7) only [seval,exC,Zbp,ZB,o1,h40,hK]|simp (maxSteps:=9^7) (disch:=first|with_reducible assumption|omega) only [dxB]|(simp only [kdB];split)|(simp only [kvB];split))
  ·have e0:=ZeO J hP F (z:=true) (l:=[]) (a:=a) (b:=b) (by intro c hc; cases hc) ha hb (Zow (by simp) ⟨Zrt,hp⟩ ⟨ZuY,fp⟩) (by simp) Zrt hp
   rw [show evE F (a,b) [] = ((0,0),0) from if_pos rfl,show ZL true [] = AV.nil from rfl] at e0
   by_cases h0 : l = []
   ·have hn : (l.length : Int) = 0:=by rw [h0]; rfl
    simp only [zA,vlA,cast0] at *
    repeat' (first|simp (maxSteps:=9^7) only [seval,exC,Zbp,ZB,o1,h40,hn,e0,hK,ZoB,ZAX,and_self,decide_true,Bool.not_true]|simp (maxSteps:=9^7) (disch:=first|with_reducible assumption|omega) only [dxB]|(simp only [kdB];split)|(simp only [kvB];split))
   ·have hl0 : 0 < l.length:=List.length_pos_iff.2 h0
    have hn : ¬ (l.length : Int) = 0:=by omega
    have wc:=hw _ (Zms hl0)
    have fc:=hf _ (Zms hl0)
    have c64:=h64 _ (Zms hl0)
    have sl:=fun m => ZCq m (z:=z) h0
    have e1:=ZeO J hP F (z:=false) (l:=[zc l 0]) (a:=a) (b:=b) (by intro c hc; rw [List.mem_singleton.1 hc]; exact c64) ha hb (Zow (by simp) ⟨by intro c hc; rw [List.mem_singleton.1 hc]; exact wc,hp⟩ ⟨by intro c hc; rw [List.mem_singleton.1 hc]; exact fc,fp⟩) (by simp) (by intro c hc; rw [List.mem_singleton.1 hc]; exact wc) hp
    rw [ZFm F fc] at e1
    have ia:=Zgx (z:=z) (l:=l) (k:=.i64) (j:=0) ⟨by omega,by simpa using hl0⟩
    rw [show ((0 : Int)).toNat = 0 from rfl,Nat.zero_mul] at ia
    have rd:=fun mm => rd_Z (G:=G) mm hl0
    rw [Nat.zero_mul] at rd
    have e2:=ZeO J hP F (z:=z) h64 ha hb oc hl hw hp
    have z64 : W64 (l ++ [(0,0)]):=by
     intro c hc
     rcases List.mem_append.1 hc with q | q
     ·exact h64 c q
     ·rw [List.mem_singleton.1 q]; decide
    have z0 : (0 : Nat) < 2 * F.sg:=by cases F <;> decide
    have f0 : F.fin 0:=Zag.2 (Or.inl (by cases F <;> decide))
    have zw : Zws F (l ++ [(0,0)]):=by
     intro c hc
     rcases List.mem_append.1 hc with q | q
     ·exact hw c q
     ·rw [List.mem_singleton.1 q]; exact ⟨z0,z0⟩
    have zf : Zfs F (l ++ [(0,0)]):=by
     intro c hc
     rcases List.mem_append.1 hc with q | q
     ·exact hf c q
     ·rw [List.mem_singleton.1 q]; exact ⟨f0,f0⟩
    have zl : ¬ 41 < (l ++ [(0,0)]).length:=by rw [List.length_append]; simp; omega
    have e3:=ZeO J hP F (z:=false) z64 ha hb (Zow zl ⟨zw,hp⟩ ⟨zf,fp⟩) zl zw hp
    obtain ⟨⟨n1,n2⟩,le⟩:=ZHd F hp fp h0 hw hf
    have ev1 : Zw F (evE F (a,b) l).1:=by unfold evE; rw [if_neg h0]; exact (pE_w F (a,b) l hw).1
    have ev2 : Zw F (evE F (a,b) (l ++ [(0,0)])).1:=by unfold evE; rw [if_neg (by simp)]; exact (pE_w F (a,b) _ zw).1
    have m1:=Zmf J hP F ev1.1 ev2.1 n1
    have m2:=Zmf J hP F ev1.2 ev2.2 n2
    have le' : ((evE F (a,b) l).2 : Int)≤((evE F (a,b) (l ++ [(0,0)])).2 : Int):=by omega
    have hq : l.length * 16≤140737488351232:=by omega
    have a1:=fun r0 r1 r2 r3 r6 => ZpK (bs:=[r0,r1,r2,r3,⟨[],false⟩,⟨[.int .u64 0,.int .u64 0],false⟩,r6]) (f:=[]) (b:=4) (z:=z) (l:=l) rfl rfl hq
    have a2:=fun r0 r1 r2 r3 r4 r6 => ZrM (bs:=[r0,r1,r2,r3,r4,⟨[.int .u64 0,.int .u64 0],false⟩,r6,⟨zcells l,false⟩]) (f:=[]) (b:=7) (c:=5) (x:=.int .u64 0) (y:=.int .u64 0) (l:=l) rfl rfl rfl hq
    have sg : ∀ r0 r1 r2 r3 r4 r5 r6 r7,snapG (Heap.mem ⟨[r0,r1,r2,r3,r4,r5,r6,r7,⟨zcells l ++ [.int .u64 0,.int .u64 0],false⟩],[]⟩) (2 + 1) 8 0 (l.length + 1) 2 = some (ZL false (l ++ [(0,0)])):=fun r0 r1 r2 r3 r4 r5 r6 r7 => by
     have:=sg_Z (d:=2) (Zpt (bs:=[r0,r1,r2,r3,r4,r5,r6,r7,⟨zcells l ++ [.int .u64 0,.int .u64 0],false⟩]) (f:=[]) (k:=8) (l:=l ++ [(0,0)]) (w:=[]) (by rw [List.append_nil,Zos]; rfl))
     rw [List.length_append] at this
     exact this
    generalize evE F (a,b) (l ++ [(0,0)]) = V2 at *
    generalize evE F (a,b) l = V1 at *
    clear n1 n2 ev1 ev2 le zw zf z64 hw hf
    simp only [zA,vlA,cast0] at *
    repeat' (first|simp (maxSteps:=9^7) only [seval,exC,Zbp,ZB,ZGx,ZBY,ZGr,ZBT,ZFV,ZFn,ZBM,ZxI,List.getElem?_cons_succ,List.getElem?_cons_zero,ZAp,ZmK,ZpV,a1,a2,sg,o1,h40,hn,e0,e1,e2,e3,m1,m2,le',sl,ia,rd,hK,ZoB,ZAX,and_self,decide_true,Bool.not_true]|simp (maxSteps:=9^7) (disch:=first|with_reducible assumption|omega) only [dxB]|(simp only [kdB];split)|(simp only [kvB];split))
end Go.Cv
