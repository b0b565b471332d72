/-
 A part of the proof of the statements of this seat (texts that the law's own text leans on): no condition.
-/
import Derived.Test.YtddmoldiopnifaaGreatDoorM11
set_option linter.unusedVariables false
set_option linter.unusedSimpArgs false
namespace Go.Cv
variable {G : Nat→Option (List AV)} {T : Tbl} {g : Nat}
theorem ZAs (x : Int) : evUn .xor (.int .u32 x) = some (.int .u32 (xorI .u32 4294967295 x)):=by rw [ZqA]; rfl
theorem xor32 {a b : Nat} (ha : a < 4294967296) (hb : b < 4294967296) : xorI .u32 (a : Int) (b : Int) = ((a ^^^ b : Nat) : Int):=by
 have : a ^^^ b < 2 ^ 32:=Nat.xor_lt_two_pow (n:=32) ha hb
 rw [ZqA]
 show IntKind.u32.wrap ((BitVec.ofInt 32 a ^^^ BitVec.ofInt 32 b).toNat : Int) = _
 rw [show BitVec.ofInt 32 (a : Int) = BitVec.ofNat 32 a from rfl,show BitVec.ofInt 32 (b : Int) = BitVec.ofNat 32 b from rfl,BitVec.toNat_xor,BitVec.toNat_ofNat,BitVec.toNat_ofNat,Nat.mod_eq_of_lt (by omega),Nat.mod_eq_of_lt (by omega),Zhi]
 omega
theorem ZDU {n : Nat} (h : n < 4294967296) : n / 2147483648 = (n.testBit 31).toNat:=by
 rw [Nat.testBit_eq_decide_div_mod_eq,show (2 : Nat) ^ 31 = 2147483648 from rfl]
 by_cases h2 : n / 2147483648 % 2 = 1
 ·rw [decide_eq_true h2]; simp only [Bool.toNat_true]; omega
 ·rw [decide_eq_false h2]; simp only [Bool.toNat_false]; omega
theorem Zvd {x y d w z : Nat} (hx : x < 4294967296) (hy : y < 4294967296) (hd : d < 4294967296) (hw : w≤1) (hz : z≤1) (h : d + y + w = x + 4294967296 * z) :
  (((4294967295 ^^^ x) &&& y) ||| ((4294967295 ^^^ (x ^^^ y)) &&& d)) / 2147483648 = z:=by
 have l1 : ((4294967295 ^^^ x) &&& y) ||| ((4294967295 ^^^ (x ^^^ y)) &&& d) < 4294967296 :=
  Nat.or_lt_two_pow (n:=32) (Nat.and_lt_two_pow _ hy) (Nat.and_lt_two_pow _ hd)
 rw [ZDU l1]
 have t1 : Nat.testBit 4294967295 31 = true:=by decide
 simp only [Nat.testBit_or,Nat.testBit_and,Nat.testBit_xor,t1]
 have e : ∀ n,n < 4294967296→n.testBit 31 = decide (2147483648≤n):=fun n hn => by
  rw [Nat.testBit_eq_decide_div_mod_eq,show (2 : Nat) ^ 31 = 2147483648 from rfl]
  by_cases h2 : 2147483648≤n
  ·rw [decide_eq_true h2]; simp only [decide_eq_true_eq]; omega
  ·rw [decide_eq_false h2]; simp only [decide_eq_false_iff_not]; omega
 rw [e x hx,e y hy,e d hd]
 by_cases a : 2147483648≤x <;> by_cases b : 2147483648≤y <;> by_cases c : 2147483648≤d <;> simp [a,b,c] <;> omega
theorem Zhw (J : Al G T g) {x y w d z : Nat} (hx : x < 4294967296) (hy : y < 4294967296) (hw : w≤1) (hd : d < 4294967296) (hz : z≤1) (h : d + y + w = x + 4294967296 * z) :
  run G T 121 [.int .u32 (x : Int),.int .u32 (y : Int),.int .u32 (w : Int)] = some (.tup [.int .u32 (d : Int),.int .u32 (z : Int)]):=by
 rw [Zac G T J.A.Zhw]
 have w1 : ((x : Int) - y) % 4294967296 = ((x : Int) - y) % 4294967296:=rfl
 have w2 : (((x : Int) - y) % 4294967296 - w) % 4294967296 = (d : Int):=by omega
 have n1 : (4294967295 ^^^ x) < 4294967296:=Nat.xor_lt_two_pow (n:=32) (by decide) hx
 have n2 : (x ^^^ y) < 4294967296:=Nat.xor_lt_two_pow (n:=32) hx hy
 have n3 : (4294967295 ^^^ (x ^^^ y)) < 4294967296:=Nat.xor_lt_two_pow (n:=32) (by decide) n2
 have x1:=xor32 (a:=4294967295) (b:=x) (by decide) hx
 have x2:=xor32 hx hy
 have x3:=xor32 (a:=4294967295) (b:=x ^^^ y) (by decide) n2
 rw [show ((4294967295 : Nat) : Int) = 4294967295 from rfl] at x1 x3
 have a1:=and32 n1 hy
 have a2:=and32 n3 hd
 have l1:=Nat.and_lt_two_pow (n:=32) (4294967295 ^^^ x) hy
 have l2:=Nat.and_lt_two_pow (n:=32) (4294967295 ^^^ (x ^^^ y)) hd
 have o1:=or32 l1 l2
 have b1:=Zvd hx hy hd hw hz h
 have b2 : (((((4294967295 ^^^ x) &&& y) ||| ((4294967295 ^^^ (x ^^^ y)) &&& d)) : Nat) : Int) / 2147483648 = (z : Int):=by
  rw [← b1]; rfl
 repeat (first | (simp (maxSteps:=9^7) only [seval,evB,Zgy,ZAs,w2,x1,x2,x3,a1,a2,o1,b2]) | (simp (disch:=omega) only [dsB]))
theorem Zhv (J : Al G T g) {x y w d z : Nat} (hx : x < 4294967296) (hy : y < 4294967296) (hw : w≤1) (hd : d < 4294967296) (hz : z≤1) (h : d + 4294967296 * z = x + y + w) :
  run G T 112 [.int .u32 (x : Int),.int .u32 (y : Int),.int .u32 (w : Int)] = some (.tup [.int .u32 (d : Int),.int .u32 (z : Int)]):=by
 rw [Zac G T J.A.Zhv]
 have w1 : (x : Int) % 18446744073709551616 = x:=by omega
 have w2 : (y : Int) % 18446744073709551616 = y:=by omega
 have w3 : (w : Int) % 18446744073709551616 = w:=by omega
 have w4 : ((x : Int) + y) % 18446744073709551616 = (x : Int) + y:=by omega
 have w5 : ((x : Int) + y + w) % 18446744073709551616 = (x : Int) + y + w:=by omega
 have w6 : ((x : Int) + y + w) % 4294967296 = d:=by omega
 have w7 : ((x : Int) + y + w) / 4294967296 = z:=by omega
 have w8 : (z : Int) % 4294967296 = z:=by omega
 repeat (first | (simp (maxSteps:=9^7) only [seval,evB,Zgw,w1,w2,w3,w4,w5,w6,w7,w8]) | (simp (disch:=omega) only [dsB]))
theorem ZCG (J : Al G T g) {x : Nat} (hx : x < 4294967296) : run G T 119 [.int .u32 (x : Int)] = some (.int .i64 ((32 - blen x : Nat) : Int)):=by
 rw [Zac G T J.A.bits_LeadingZeros32]
 have h1:=ZjV (G:=G) J hx
 have hb : blen x≤32:=Zae.2 hx
 have w1 : (32 : Int) - (blen x : Nat) = ((32 - blen x : Nat) : Int):=by omega
 repeat (first | (simp (maxSteps:=9^7) only [seval,evB,ZbA,h1,w1]) | (simp (disch:=omega) only [dsB]))
theorem Zed {b off n : Nat} {k : IntKind} {j : Int} (hj : 0≤j∧j < n) : iaddrV 1 (.own b off n 1) (.int k j) = some (.ptr b (off + j.toNat)):=by
 rw [iaddrV,if_pos ⟨hj.1,hj.2,rfl⟩,Nat.mul_one]
theorem ZEO {A W C : List Nat} {i : Nat} (hi : i < W.length) : dg (A ++ W ++ C) (A.length + i) = dg W i:=by
 rw [Zfr (by simp only [List.length_append]; omega),Zfr hi,List.getElem_append_left (by simp only [List.length_append]; omega),List.getElem_append_right (by omega)]
 congr 1; omega
theorem ZCR {V C : List Nat} {i : Nat} (hi : i < V.length) : dg (V ++ C) i = dg V i:=by
 rw [Zfr (by simp only [List.length_append]; omega),Zfr hi,List.getElem_append_left hi]
theorem ZDL {A W C : List Nat} {i x : Nat} (hi : i < W.length) : (A ++ W ++ C).set (A.length + i) x = A ++ W.set i x ++ C:=by
 rw [List.set_append_left _ _ (by simp only [List.length_append]; omega),List.set_append_right _ _ (by omega),Nat.add_sub_cancel_left]
theorem ZnT {h : Heap} {b : Nat} {A W C : List Nat} (H : Holds h b (A ++ W ++ C)) {i : Nat} (hi : i < W.length) : rdAt G h.mem 1 (.ptr b (A.length + i)) = some [.int .u32 (dg W i)]:=by
 rw [Zki (G:=G) H (by simp only [List.length_append]; omega),ZEO hi]
theorem ZqZ {h : Heap} {b : Nat} {V C : List Nat} (H : Holds h b (V ++ C)) {i : Nat} (hi : i < V.length) : rdAt G h.mem 1 (.ptr b i) = some [.int .u32 (dg V i)]:=by
 rw [Zki (G:=G) H (by simp only [List.length_append]; omega),ZCR hi]
theorem Zqu {h : Heap} {b : Nat} {A W C : List Nat} (H : Holds h b (A ++ W ++ C)) {i x : Nat} (hi : i < W.length) :
  storeV h 1 (.ptr b (A.length + i)) (.int .u32 (x : Int)) = some (.tup [],put h b (A ++ W.set i x ++ C)):=by
 rw [Zdu H (by simp only [List.length_append]; omega),ZDL hi]
theorem ZvD {h : Heap} {bu bv n : Nat} {A W C V V2 : List Nat} {X Y P v1 v2 t u : Nat} (HU : Holds h bu (A ++ W ++ C)) (HV : Holds h bv (V ++ V2)) (hW : W.length = n + 1) (hV : V.length = n) (hn : 2≤n) (hs : n < 549755813888)
  (dV : Dg V) (dW : Dg W) (e1 : dg V (n - 1) = v1) (e2 : dg V (n - 2) = v2) (e3 : dg W (n - 2) = u) (h0 : 0 < Y) (hV1 : (v1 * 4294967296 + v2) * P≤Y) (hV2 : Y≤(v1 * 4294967296 + v2 + 1) * P) (hX1 : (t * 4294967296 + u) * P≤X)
  (hX2 : X < (t * 4294967296 + u + 1) * P) (hXV : X < 4294967296 * Y) (hv1 : 1≤v1) (ht : t < v1 * 4294967296 + 4294967296) (htb : t < 18446744073709551616) : ∀ (g l : Nat),
  l < 4294967296→g * v1 + l = t→X / Y≤g →
  Post (evL G T ZbD [(0,.own bu A.length (n + 1) 1),(1,.own bv 0 n 1),(5,.int .i64 (n : Int)),(7,.int .u64 (g : Int)),(8,.int .u64 (l : Int))] h) fun r =>
   ∃ e g',r = (.exit 0,(0,.own bu A.length (n + 1) 1) :: (1,.own bv 0 n 1) :: (5,.int .i64 (n : Int)) :: (7,.int .u64 ((g' : Nat) : Int)) :: e,h)∧g' < 4294967296∧X / Y≤g'∧g'≤X / Y + 1:=by
 intro g
 induction g using Nat.strongRecOn with
 | ind g ih =>
  intro l hl hgl hq
  have hv2 : v2 < 4294967296:=e2 ▸ dV.dg _
  have hu : u < 4294967296:=e3 ▸ dW.dg _
  have hv1' : v1 < 4294967296:=e1 ▸ dV.dg _
  have hend:=fun g l => Zxj (X:=X) (V:=Y) (t:=t) (u:=u) (P:=P) (g:=g) (l:=l) h0 hV1 hV2 hX1 hv1 hv2
  have hdn:=Zvq (g:=g) (l:=l) hV1 hX2 hXV hgl
  have hgt : g≤t:=Nat.le_trans (Nat.le_mul_of_pos_right g hv1) (by omega)
  have hstep : 1≤g→(g - 1) * v1 + (l + v1) = t:=fun hg => by
   obtain ⟨k,rfl⟩ : ∃ k,g = k + 1:=⟨g - 1,by omega⟩
   rw [Nat.add_mul] at hgl; simp only [Nat.add_sub_cancel]; omega
  clear hX1 hX2 hXV hV1 hV2
  generalize X / Y = q at *
  rw [Zaf G T (c:=ZbD) rfl]
  have i1 : (n : Int) - 1 = ((n - 1 : Nat) : Int):=by omega
  have i2 : (n : Int) - 2 = ((n - 2 : Nat) : Int):=by omega
  have l1:=ZqZ (G:=G) HV (i:=n - 1) (by omega)
  have l2:=ZqZ (G:=G) HV (i:=n - 2) (by omega)
  have l3:=ZnT (G:=G) HU (i:=n - 2) (by omega)
  rw [e1] at l1
  rw [e2] at l2
  rw [e3] at l3
  have wv1 : (v1 : Int) % 18446744073709551616 = v1:=by omega
  have wv2 : (v2 : Int) % 18446744073709551616 = v2:=by omega
  have wu : (u : Int) % 18446744073709551616 = u:=by omega
  have wl : ((l : Int) + v1) % 18446744073709551616 = ((l + v1 : Nat) : Int):=by omega
  have wo:=Zqp (r:=l) (x:=u) hl hu
  have wg : 1≤g→((g : Int) - 1) % 18446744073709551616 = ((g - 1 : Nat) : Int):=fun hg => by omega
  have fin : (hg : q < g)→Post (if (4294967296 : Int)≤((l + v1 : Nat) : Int) then some ((.exit 0,[(0,.own bu A.length (n + 1) 1),(1,.own bv 0 n 1),(5,.int .i64 (n : Int)),(7,.int .u64 ((g - 1 : Nat) : Int)),(8,.int .u64 ((l + v1 : Nat) : Int)),(80,.bool true)],h) : Ex × Env × Heap)
    else evL G T ZbD [(0,.own bu A.length (n + 1) 1),(1,.own bv 0 n 1),(5,.int .i64 (n : Int)),(7,.int .u64 ((g - 1 : Nat) : Int)),(8,.int .u64 ((l + v1 : Nat) : Int)),(80,.bool false)] h) fun r =>
   ∃ e g',r = (.exit 0,(0,.own bu A.length (n + 1) 1) :: (1,.own bv 0 n 1) :: (5,.int .i64 (n : Int)) :: (7,.int .u64 ((g' : Nat) : Int)) :: e,h)∧g' < 4294967296∧q≤g'∧g'≤q + 1:=by
   intro hg
   by_cases c2 : 4294967296≤l + v1
   ·rw [if_pos (by omega)]
    exact Post.some ⟨_,_,rfl,hend _ _ (hstep (by omega)) ht (by omega) (Or.inr c2)⟩
   ·rw [if_neg (by omega),show evL G T ZbD [(0,.own bu A.length (n + 1) 1),(1,.own bv 0 n 1),(5,.int .i64 (n : Int)),(7,.int .u64 ((g - 1 : Nat) : Int)),(8,.int .u64 ((l + v1 : Nat) : Int)),(80,.bool false)] h = evL G T ZbD [(0,.own bu A.length (n + 1) 1),(1,.own bv 0 n 1),(5,.int .i64 (n : Int)),(7,.int .u64 ((g - 1 : Nat) : Int)),(8,.int .u64 ((l + v1 : Nat) : Int))] h by
     rw [Zaf G T (c:=ZbD) rfl,Zaf G T (c:=ZbD) rfl]; rfl]
    exact ih (g - 1) (by omega) (l + v1) (by omega) (hstep (by omega)) (by omega)
  by_cases c1 : 4294967296≤g
  ·have hg:=hdn (Or.inl c1)
   have c1' : (4294967296 : Int)≤(g : Int):=by omega
   have wg:=wg (by omega)
   have fin:=fin hg
   clear hend hdn ih hstep
   by_cases c2 : (4294967296 : Int)≤((l + v1 : Nat) : Int)
   ·rw [if_pos c2] at fin
    repeat (first | (simp (maxSteps:=9^7) only [seval,evB,ZcH,c1',c2,wg,wl,wv1,i1,l1 ]) | (simp (disch:=omega) only [dsB,Zed]))
    exact fin
   ·rw [if_neg c2] at fin
    repeat (first | (simp (maxSteps:=9^7) only [seval,evB,ZcH,c1',c2,wg,wl,wv1,i1,l1 ]) | (simp (disch:=omega) only [dsB,Zed]))
    exact fin
  ·have c1' : ¬ (4294967296 : Int)≤(g : Int):=by omega
   have hp : g * v2≤4294967295 * 4294967295:=Nat.mul_le_mul (by omega) (by omega)
   have wp : (g : Int) * (v2 : Int) = ((g * v2 : Nat) : Int):=by rw [Int.natCast_mul]
   have wp2 : ((g * v2 : Nat) : Int) % 18446744073709551616 = ((g * v2 : Nat) : Int):=by omega
   by_cases c3 : l * 4294967296 + u < g * v2
   ·have hg:=hdn (Or.inr c3)
    have wg:=wg (by omega)
    have fin:=fin hg
    have c3' : ((l * 4294967296 + u : Nat) : Int) < ((g * v2 : Nat) : Int):=by omega
    clear hend hdn ih hstep
    by_cases c2 : (4294967296 : Int)≤((l + v1 : Nat) : Int)
    ·rw [if_pos c2] at fin
     repeat (first | (simp (maxSteps:=9^7) only [seval,evB,ZcH,c1',c2,c3',wp,wp2,wo,wu,wv2,wg,wl,wv1,i1,i2,l1,l2,l3 ]) | (simp (disch:=omega) only [dsB,Zed]))
     exact fin
    ·rw [if_neg c2] at fin
     repeat (first | (simp (maxSteps:=9^7) only [seval,evB,ZcH,c1',c2,c3',wp,wp2,wo,wu,wv2,wg,wl,wv1,i1,i2,l1,l2,l3 ]) | (simp (disch:=omega) only [dsB,Zed]))
     exact fin
   ·have c3' : ¬ ((l * 4294967296 + u : Nat) : Int) < ((g * v2 : Nat) : Int):=by omega
    have fin:=hend g l hgl ht hq (Or.inl ⟨by omega,by omega⟩)
    clear hend hdn ih hstep
    repeat (first | (simp (maxSteps:=9^7) only [seval,evB,ZcH,c1',c3',wp,wp2,wo,wu,wv2,i1,i2,l2,l3 ]) | (simp (disch:=omega) only [dsB,Zed]))
    exact Post.some ⟨_,_,rfl,fin⟩
theorem ZyM {x y w : Nat} (hx : x < 4294967296) (hy : y < 4294967296) (hw : w≤1) : ∃ d z,d < 4294967296∧z≤1∧d + y + w = x + 4294967296 * z:=by
 by_cases h : y + w≤x
 ·exact ⟨x - y - w,0,by omega,by omega,by omega⟩
 ·exact ⟨x + 4294967296 - y - w,1,by omega,by omega,by omega⟩
theorem ZvY {x y w : Nat} (hx : x < 4294967296) (hy : y < 4294967296) (hw : w≤1) : ∃ d z,d < 4294967296∧z≤1∧d + 4294967296 * z = x + y + w :=
 ⟨(x + y + w) % 4294967296,(x + y + w) / 4294967296,by omega,by omega,by omega⟩
theorem ZrK (J : Al G T g) {h : Heap} {bu bv n q : Nat} {A C V V2 W0 : List Nat} (HU : Holds h bu (A ++ W0 ++ C)) (HV : Holds h bv (V ++ V2)) (hne : bv≠bu) (hV : V.length = n) (hs : n < 549755813888)
  (dV : Dg V) (hq : q < 4294967296) : ∀ (m i : Nat) (W : List Nat) (c w : Nat),m + i = n→W.length = n + 1→Dg W→c < 4294967296→w≤1→val W + q * val (V.take i) = val W0 + 4294967296 ^ i * (c + w) →
  Post (evL G T ZfH [(0,.own bu A.length (n + 1) 1),(1,.own bv 0 n 1),(5,.int .i64 (n : Int)),(7,.int .u64 (q : Int)),(9,.int .u32 (w : Int)),(10,.int .u64 (c : Int)),(81,.own bv 0 n 1),(82,.int .i64 (n : Int)),(83,.int .i64 (i : Int))] (put h bu (A ++ W ++ C))) fun r =>
   ∃ e W' c' w',r = (.exit 2,(0,.own bu A.length (n + 1) 1) :: (1,.own bv 0 n 1) :: (5,.int .i64 (n : Int)) :: (7,.int .u64 (q : Int)) :: (9,.int .u32 ((w' : Nat) : Int)) :: (10,.int .u64 ((c' : Nat) : Int)) :: e,put h bu (A ++ W' ++ C)) ∧
    W'.length = n + 1∧Dg W'∧c' < 4294967296∧w'≤1∧val W' + q * val V = val W0 + 4294967296 ^ n * (c' + w')
 | 0,i,W,c,w,hm,hW,dW,hc,hw,he => by
  rw [Zaf G T (c:=ZfH) rfl]
  have h1 : ¬ (i : Int) < (n : Int):=by omega
  repeat (first | (simp (maxSteps:=9^7) only [seval,evB,Zil,h1]) | (simp (disch:=omega) only [dsB]))
  obtain rfl : i = n:=by omega
  rw [List.take_of_length_le (by omega)] at he
  exact Post.some ⟨_,_,_,_,rfl,hW,dW,hc,hw,he⟩
 | m + 1,i,W,c,w,hm,hW,dW,hc,hw,he => by
  rw [Zaf G T (c:=ZfH) rfl]
  have h1 : (i : Int) < (n : Int):=by omega
  have e7 : (i : Int) + 1 = ((i + 1 : Nat) : Int):=by omega
  have hd:=dV.dg i
  have hx:=dW.dg i
  have HU':=HU.put (A ++ W ++ C)
  have HV':=HV.other (l:=A ++ W ++ C) hne
  have l1:=ZqZ (G:=G) HV' (i:=i) (by omega)
  have l2:=ZnT (G:=G) HU' (i:=i) (by omega)
  have w1 : (dg V i : Int) % 18446744073709551616 = dg V i:=by omega
  have hp : q * dg V i≤4294967295 * 4294967295:=Nat.mul_le_mul (by omega) (by omega)
  have w2 : (q : Int) * (dg V i : Int) = ((q * dg V i : Nat) : Int):=by rw [Int.natCast_mul]
  have hv:=Zab (l:=V) (i:=i)
  generalize hpp : q * dg V i = p at *
  have w3 : (p : Int) % 18446744073709551616 = p:=by omega
  have w4 : ((c : Int) + (p : Int)) % 18446744073709551616 = ((c + p : Nat) : Int):=by omega
  have w5 : ((c + p : Nat) : Int) % 4294967296 = (((c + p) % 4294967296 : Nat) : Int):=by omega
  have w6 : ((c + p : Nat) : Int) / 4294967296 = (((c + p) / 4294967296 : Nat) : Int):=by omega
  have hy : (c + p) % 4294967296 < 4294967296:=Nat.mod_lt _ (by decide)
  have hc2 : (c + p) / 4294967296 < 4294967296:=by omega
  have hcp : c + p = (c + p) % 4294967296 + 4294967296 * ((c + p) / 4294967296):=by omega
  generalize (c + p) % 4294967296 = y at *
  generalize (c + p) / 4294967296 = c2 at *
  obtain ⟨d,z,hd1,hz,hdz⟩:=ZyM hx hy hw
  have call:=Zhw (G:=G) J hx hy hw hd1 hz hdz
  have st:=Zqu HU' (i:=i) (x:=d) (by omega)
  rw [Zjz] at st
  repeat (first | (simp (maxSteps:=9^7) only [seval,evB,Zil,h1,e7,w1,w2,w3,w4,w5,w6,l1,l2,call,st ]) | (simp (disch:=omega) only [dsB,Zed]))
  refine ZrK J HU HV hne hV hs dV hq m (i + 1) _ _ _ (by omega) (by rw [List.length_set]; exact hW) (ZeZ dW hd1) hc2 hz ?_
  rw [hv]
  exact ZyQ (Zmz d (by omega)) he hdz (by rw [hpp]; exact hcp)
theorem ZrJ (J : Al G T g) {h : Heap} {bu bv n q : Nat} {A C V V2 W0 : List Nat} (HU : Holds h bu (A ++ W0 ++ C)) (HV : Holds h bv (V ++ V2)) (hne : bv≠bu) (hV : V.length = n) (hs : n < 549755813888)
  (dV : Dg V) : ∀ (m i : Nat) (W : List Nat) (w : Nat),m + i = n→W.length = n + 1→Dg W→w≤1→val W + 4294967296 ^ i * w = val W0 + val (V.take i)→dg W n = dg W0 n →
  Post (evL G T ZfG [(0,.own bu A.length (n + 1) 1),(5,.int .i64 (n : Int)),(7,.int .u64 (q : Int)),(13,.int .u32 (w : Int)),(129,.own bv 0 n 1),(130,.int .i64 (n : Int)),(131,.int .i64 (i : Int))] (put h bu (A ++ W ++ C))) fun r =>
   ∃ e W' w',r = (.exit 4,(0,.own bu A.length (n + 1) 1) :: (5,.int .i64 (n : Int)) :: (7,.int .u64 (q : Int)) :: (13,.int .u32 ((w' : Nat) : Int)) :: e,put h bu (A ++ W' ++ C)) ∧
    W'.length = n + 1∧Dg W'∧w'≤1∧val W' + 4294967296 ^ n * w' = val W0 + val V∧dg W' n = dg W0 n
 | 0,i,W,w,hm,hW,dW,hw,he,hn => by
  rw [Zaf G T (c:=ZfG) rfl]
  have h1 : ¬ (i : Int) < (n : Int):=by omega
  repeat (first | (simp (maxSteps:=9^7) only [seval,evB,Zik,h1]) | (simp (disch:=omega) only [dsB]))
  obtain rfl : i = n:=by omega
  rw [List.take_of_length_le (by omega)] at he
  exact Post.some ⟨_,_,_,rfl,hW,dW,hw,he,hn⟩
 | m + 1,i,W,w,hm,hW,dW,hw,he,hn => by
  rw [Zaf G T (c:=ZfG) rfl]
  have h1 : (i : Int) < (n : Int):=by omega
  have e7 : (i : Int) + 1 = ((i + 1 : Nat) : Int):=by omega
  have hd:=dV.dg i
  have hx:=dW.dg i
  have HU':=HU.put (A ++ W ++ C)
  have HV':=HV.other (l:=A ++ W ++ C) hne
  have l1:=ZqZ (G:=G) HV' (i:=i) (by omega)
  have l2:=ZnT (G:=G) HU' (i:=i) (by omega)
  obtain ⟨d,z,hd1,hz,hdz⟩:=ZvY hx hd hw
  have call:=Zhv (G:=G) J hx hd hw hd1 hz hdz
  have st:=Zqu HU' (i:=i) (x:=d) (by omega)
  rw [Zjz] at st
  repeat (first | (simp (maxSteps:=9^7) only [seval,evB,Zik,h1,e7,l1,l2,call,st ]) | (simp (disch:=omega) only [dsB,Zed]))
  refine ZrJ J HU HV hne hV hs dV m (i + 1) _ _ (by omega) (by rw [List.length_set]; exact hW) (ZeZ dW hd1) hz ?_ (by rw [Znt (by omega)]; exact hn)
  rw [Zab]
  exact Zwf (Zmz d (by omega)) he hdz
theorem ZyI {X Y g w : Nat} (h0 : 0 < Y) (he : w + g * Y = X) (hq : X / Y≤g) : g = X / Y∧w = X % Y:=by
 have h1 : g≤X / Y:=by rw [Nat.le_div_iff_mul_le h0]; omega
 obtain rfl : g = X / Y:=by omega
 have:=Nat.div_add_mod X Y
 rw [Nat.mul_comm] at this
 exact ⟨rfl,by omega⟩
theorem ZyJ {X Y g w w4 k B : Nat} (h0 : 0 < Y) (hB : Y≤B) (he : w + g * Y = X + B) (hw : w < B) (hq : g≤X / Y + 1) (h4 : w4 + B * k = w + Y) (hw4 : w4 < B) : g = X / Y + 1∧w4 = X % Y:=by
 have h1 : X / Y < g:=Nat.div_lt_of_lt_mul (by rw [Nat.mul_comm]; omega)
 obtain rfl : g = X / Y + 1:=by omega
 have h2:=Nat.div_add_mod X Y
 have h3:=Nat.mod_lt X h0
 rw [Nat.add_mul,Nat.one_mul,Nat.mul_comm] at he
 refine ⟨rfl,?_⟩
 rcases k with _ | _ | k
 ·rw [Nat.mul_zero] at h4; omega
 ·omega
 ·have : B * (k + 1 + 1) = B * k + B + B:=by rw [Nat.mul_add,Nat.mul_add,Nat.mul_one]
  omega
theorem ZDV {V : List Nat} {n : Nat} (hV : V.length = n + 2) : val V = val (V.take n) + 4294967296 ^ n * (dg V (n + 1) * 4294967296 + dg V n):=by
 have e1:=Zab (l:=V) (i:=n)
 have e2:=Zab (l:=V) (i:=n + 1)
 rw [List.take_of_length_le (by omega)] at e2
 rw [e2,e1,Nat.pow_succ,Nat.mul_add,Nat.mul_assoc,Nat.mul_comm 4294967296 (dg V (n + 1))]; omega
theorem ZyW {W : List Nat} {n : Nat} (hW : W.length = n + 3) : val W = val (W.take n) + 4294967296 ^ n * ((dg W (n + 2) * 4294967296 + dg W (n + 1)) * 4294967296 + dg W n):=by
 have e1:=Zab (l:=W) (i:=n)
 have e2:=Zab (l:=W) (i:=n + 1)
 have e3:=Zab (l:=W) (i:=n + 2)
 rw [List.take_of_length_le (by omega)] at e3
 rw [e3,e2,e1,Nat.pow_succ (m:=n + 1),Nat.pow_succ (m:=n)]
 generalize 4294967296 ^ n = p
 generalize dg W n = a
 generalize dg W (n + 1) = b
 generalize dg W (n + 2) = c
 have h1 : p * 4294967296 * b = 4294967296 * (p * b):=by rw [Nat.mul_comm p,Nat.mul_assoc]
 have h2 : p * 4294967296 * 4294967296 * c = 4294967296 * 4294967296 * (p * c):=by rw [Nat.mul_assoc p,Nat.mul_comm p,Nat.mul_assoc]
 have h3 : p * ((c * 4294967296 + b) * 4294967296 + a) = 4294967296 * 4294967296 * (p * c) + 4294967296 * (p * b) + p * a:=by
  rw [Nat.mul_add,← Nat.mul_assoc,Nat.mul_add,← Nat.mul_assoc]; omega
 rw [h1,h2,h3]; omega
theorem ZFL {b t v u2 v2 : Nat} (h : t * b + u2 < b * (v + v2 + 1)) (h2 : v2 < b) : t < v + b:=by
 have h3 : b * t < b * (v + v2 + 1):=by rw [Nat.mul_comm]; exact Nat.lt_of_le_of_lt (Nat.le_add_right _ _) h
 have:=Nat.lt_of_mul_lt_mul_left h3
 omega
structure StepPre (W V : List Nat) (n : Nat) : Prop where
 hn : 2≤n
 hs : n < 17179869184
 hW : W.length = n + 1
 hV : V.length = n
 dW : Dg W
 dV : Dg V
 top : 2147483648≤dg V (n - 1)
 lt : val W < 4294967296 * val V
theorem ZvC {W V : List Nat} {n : Nat} (p : StepPre W V n) : ∃ P,0 < P∧(dg V (n - 1) * 4294967296 + dg V (n - 2)) * P≤val V∧val V≤(dg V (n - 1) * 4294967296 + dg V (n - 2) + 1) * P ∧
  ((dg W n * 4294967296 + dg W (n - 1)) * 4294967296 + dg W (n - 2)) * P≤val W∧val W < ((dg W n * 4294967296 + dg W (n - 1)) * 4294967296 + dg W (n - 2) + 1) * P ∧
  dg W n * 4294967296 + dg W (n - 1) < dg V (n - 1) * 4294967296 + 4294967296∧val W / val V≤(dg W n * 4294967296 + dg W (n - 1)) / dg V (n - 1)∧0 < val V:=by
 obtain ⟨hn,hs,hW,hV,dW,dV,top,lt⟩:=p
 obtain ⟨k,rfl⟩ : ∃ k,n = k + 2:=⟨n - 2,by omega⟩
 have e1:=ZDV hV
 have e2:=ZyW hW
 have t1:=Zem (dV.take k)
 have t2:=Zem (dW.take k)
 rw [List.length_take,Nat.min_eq_left (by omega)] at t1 t2
 simp only [Nat.add_sub_cancel,show k + 2 - 1 = k + 1 from rfl] at *
 have b1:=dV.dg k
 have b2:=dW.dg k
 have b3:=dW.dg (k + 1)
 generalize 4294967296 ^ k = P at *
 generalize val (V.take k) = lo at *
 generalize val (W.take k) = lo2 at *
 generalize dg V (k + 1) = v1 at *
 generalize dg V k = v2 at *
 generalize dg W (k + 2) = u0 at *
 generalize dg W (k + 1) = u1 at *
 generalize dg W k = u2 at *
 rw [Nat.mul_comm] at e1 e2
 have c1 : (v1 * 4294967296 + v2) * P≤val V:=by rw [e1]; exact Nat.le_add_left _ _
 have c2 : val V < (v1 * 4294967296 + v2 + 1) * P:=by rw [e1,Nat.add_mul _ 1,Nat.one_mul]; omega
 have c3 : ((u0 * 4294967296 + u1) * 4294967296 + u2) * P≤val W:=by rw [e2]; exact Nat.le_add_left _ _
 have c4 : val W < ((u0 * 4294967296 + u1) * 4294967296 + u2 + 1) * P:=by rw [e2,Nat.add_mul _ 1,Nat.one_mul]; omega
 have hP : 0 < P:=by omega
 have hY : 0 < val V:=Nat.lt_of_lt_of_le (Nat.mul_pos (by omega) hP) c1
 refine ⟨P,hP,c1,Nat.le_of_lt c2,c3,c4,?_,?_,hY⟩
 ·have h1 : ((u0 * 4294967296 + u1) * 4294967296 + u2) * P < (4294967296 * (v1 * 4294967296 + v2 + 1)) * P:=by
   calc _≤val W:=c3
    _ < 4294967296 * val V:=lt
    _≤4294967296 * ((v1 * 4294967296 + v2 + 1) * P):=Nat.mul_le_mul_left _ (Nat.le_of_lt c2)
    _ = _:=by rw [Nat.mul_assoc]
  exact ZFL (Nat.lt_of_mul_lt_mul_right h1) b1
 ·refine Zsi (P:=P) (g:=0) (l:=0) (Q:=4294967296 * P) ?_ ?_ (by omega)
  ·refine Nat.le_trans ?_ c1
   rw [← Nat.mul_assoc]; exact Nat.mul_le_mul_right _ (by omega)
  ·refine Nat.lt_of_lt_of_le c4 ?_
   rw [← Nat.mul_assoc]; exact Nat.mul_le_mul_right _ (by omega)
theorem Zuh {h : Heap} {b : Nat} {l : List Nat} (H : Holds h b l) : put h b l = h:=by
 have:=H.at_
 cases h with
 | mk bs fs =>
  simp only [put] at *
  congr 1
  apply List.ext_getElem?
  intro i
  by_cases hi : b = i
  ·subst hi
   rw [List.getElem?_set_self (by have:=(List.getElem?_eq_some_iff.1 this).1; exact this),this]
  ·rw [List.getElem?_set_ne hi]
theorem ZsF {W V : List Nat} {n : Nat} (p : StepPre W V n) : ∃ P t,t = dg W n * 4294967296 + dg W (n - 1)∧0 < P∧(dg V (n - 1) * 4294967296 + dg V (n - 2)) * P≤val V∧val V≤(dg V (n - 1) * 4294967296 + dg V (n - 2) + 1) * P ∧
  (t * 4294967296 + dg W (n - 2)) * P≤val W∧val W < (t * 4294967296 + dg W (n - 2) + 1) * P ∧
  t < dg V (n - 1) * 4294967296 + 4294967296∧val W / val V≤t / dg V (n - 1)∧0 < val V:=by
 obtain ⟨P,h⟩:=ZvC p
 exact ⟨P,_,rfl,h⟩
theorem Zqb (J : Al G T g) {h : Heap} {bu bv n : Nat} {A C V V2 W : List Nat} (HU : Holds h bu (A ++ W ++ C)) (HV : Holds h bv (V ++ V2)) (hne : bv≠bu) (p : StepPre W V n) :
  ∃ W',kJ G Zer.res (evL G T Zer.body (numE 0 [.own bu A.length (n + 1) 1,.own bv 0 n 1]) h) = some (.int .u32 ((val W / val V : Nat) : Int),put h bu (A ++ W' ++ C))∧W'.length = n + 1∧Dg W'∧val W' = val W % val V:=by
 obtain ⟨P,t,hte,hP,f1,f2,f3,f4,f5,f6,f7⟩:=ZsF p
 obtain ⟨hn,hs,hW,hV,dW,dV,top,lt⟩:=p
 have x0:=dW.dg n
 have x1:=dW.dg (n - 1)
 have y1:=dV.dg (n - 1)
 have ht : t < 18446744073709551616:=by omega
 have hmod:=Nat.mod_lt t (y:=dg V (n - 1)) (by omega)
 have hdm:=Nat.div_add_mod t (dg V (n - 1))
 rw [Nat.mul_comm] at hdm
 obtain ⟨_,hr,e,q',rfl,hq1,hq2,hq3⟩:=ZvD (G:=G) (T:=T) (t:=t) HU HV hW hV hn (by omega) dV dW rfl rfl rfl f7 f1 f2 f3 f4 lt (by omega) f5 ht _ _ (by omega) hdm f6
 obtain ⟨_,hr2,e2,W1,c,w,rfl,hW1,dW1,hc,hw,hv1⟩:=ZrK (G:=G) J HU HV hne hV (by omega) dV hq1 n 0 W 0 0 (by omega) hW dW (by decide) (by decide) (by simp [val])
 rw [Zuh HU,cast0] at hr2
 have HU1:=HU.put (A ++ W1 ++ C)
 have l0:=ZnT (G:=G) HU (i:=n) (by omega)
 have l1:=ZnT (G:=G) HU (i:=n - 1) (by omega)
 have l2:=ZqZ (G:=G) HV (i:=n - 1) (by omega)
 have l3:=ZnT (G:=G) HU1 (i:=n) (by omega)
 have i1 : (n : Int) - 1 = ((n - 1 : Nat) : Int):=by omega
 have w0 : (dg W n : Int) % 18446744073709551616 = dg W n:=by omega
 have w1 : (dg W (n - 1) : Int) % 18446744073709551616 = dg W (n - 1):=by omega
 have w2:=Zqp x0 x1
 rw [← hte] at w2
 have w3 : (dg V (n - 1) : Int) % 18446744073709551616 = dg V (n - 1):=by omega
 have h2 : ¬ (dg V (n - 1) : Int) = 0:=by omega
 have hbig : t / dg V (n - 1) < 18446744073709551616:=Nat.lt_of_le_of_lt (Nat.div_le_self _ _) ht
 have w4 : (t : Int).tdiv (dg V (n - 1) : Int) = ((t / dg V (n - 1) : Nat) : Int):=rfl
 have w5 : (t : Int).tmod (dg V (n - 1) : Int) = ((t % dg V (n - 1) : Nat) : Int):=rfl
 generalize t / dg V (n - 1) = tq at *
 generalize t % dg V (n - 1) = tm at *
 have w6 : (tq : Int) % 18446744073709551616 = tq:=by omega
 have w7 : (c : Int) % 4294967296 = c:=by omega
 obtain ⟨d,z,hd,hz,hdz⟩:=ZyM (dW1.dg n) hc hw
 have call:=Zhw (G:=G) J (dW1.dg n) hc hw hd hz hdz
 have st:=Zqu HU1 (i:=n) (x:=d) (by omega)
 rw [Zjz] at st
 have hset:=Zmz (l:=W1) (j:=n) d (by omega)
 have hlen2 : (W1.set n d).length = n + 1:=by rw [List.length_set]; exact hW1
 have dW2:=ZeZ (i:=n) dW1 hd
 have hlt2:=Zem dW2
 rw [hlen2] at hlt2
 have key : val (W1.set n d) + q' * val V = val W + 4294967296 ^ (n + 1) * z:=by
  rw [Nat.pow_succ,Nat.mul_assoc]
  have h1 : 4294967296 ^ n * d + 4294967296 ^ n * c + 4294967296 ^ n * w = 4294967296 ^ n * dg W1 n + 4294967296 ^ n * (4294967296 * z):=by rw [← Nat.mul_add,← Nat.mul_add,hdz,Nat.mul_add]
  rw [Nat.mul_add] at hv1
  generalize 4294967296 ^ n * (4294967296 * z) = a1 at *
  generalize 4294967296 ^ n * d = a2 at *
  generalize 4294967296 ^ n * c = a3 at *
  generalize 4294967296 ^ n * w = a4 at *
  generalize 4294967296 ^ n * dg W1 n = a5 at *
  generalize q' * val V = a6 at *
  omega
 by_cases hz0 : z = 0
 ·subst hz0
  rw [Nat.mul_zero,Nat.add_zero] at key
  obtain ⟨k1,k2⟩:=ZyI f7 key hq2
  refine ⟨W1.set n d,?_,hlen2,dW2,k2⟩
  rw [← k1]
  rw [cast0] at call
  have w8 : (q' : Int) % 4294967296 = q':=by omega
  clear key k1 k2 hset hdm hlt2 f1 f2 f3 f4 f5 f6 hv1 lt hq2 hq3
  repeat (first | (simp (maxSteps:=9^7) only [seval,evB,Zer,l0,l1,l2,l3,i1,w0,w1,w2,w3,w4,w5,w6,w7,w8,h2,hr,hr2,call,st ]) | (simp (disch:=omega) only [dsB,Zed]))
 ·obtain rfl : z = 1:=by omega
  rw [Nat.mul_one] at key
  have HU2:=HU.put (A ++ W1.set n d ++ C)
  have HV2:=HV.other (l:=A ++ W1.set n d ++ C) hne
  obtain ⟨_,hr3,e3,W3,w',rfl,hW3,dW3,hw3,hv3,hn3⟩:=ZrJ (G:=G) (q:=q') J HU2 HV2 hne hV (by omega) dV n 0 (W1.set n d) 0 (by omega) hlen2 dW2 (by decide) (by simp [val]) rfl
  rw [Zjz,Zjz,cast0] at hr3
  have HU3:=HU.put (A ++ W3 ++ C)
  have l4:=ZnT (G:=G) HU3 (i:=n) (by omega)
  have x3:=dW3.dg n
  have w9 : ((dg W3 n : Int) + w') % 4294967296 = (((dg W3 n + w') % 4294967296 : Nat) : Int):=by omega
  have hdd : dg W3 n + w' = (dg W3 n + w') % 4294967296 + 4294967296 * ((dg W3 n + w') / 4294967296):=by omega
  have hd3 : (dg W3 n + w') % 4294967296 < 4294967296:=Nat.mod_lt _ (by decide)
  generalize (dg W3 n + w') % 4294967296 = d3 at *
  generalize (dg W3 n + w') / 4294967296 = k3 at *
  have st3:=Zqu HU3 (i:=n) (x:=d3) (by omega)
  rw [Zjz] at st3
  have hset3:=Zmz (l:=W3) (j:=n) d3 (by omega)
  have hlen4 : (W3.set n d3).length = n + 1:=by rw [List.length_set]; exact hW3
  have dW4:=ZeZ (i:=n) dW3 hd3
  have hlt4:=Zem dW4
  rw [hlen4] at hlt4
  have key4 : val (W3.set n d3) + 4294967296 ^ (n + 1) * k3 = val (W1.set n d) + val V:=by
   rw [Nat.pow_succ,Nat.mul_assoc]
   have h1 : 4294967296 ^ n * dg W3 n + 4294967296 ^ n * w' = 4294967296 ^ n * d3 + 4294967296 ^ n * (4294967296 * k3):=by rw [← Nat.mul_add,← Nat.mul_add,hdd]
   generalize 4294967296 ^ n * (4294967296 * k3) = a1 at *
   generalize 4294967296 ^ n * d3 = a2 at *
   generalize 4294967296 ^ n * w' = a3 at *
   generalize 4294967296 ^ n * dg W3 n = a4 at *
   omega
  have hYB : val V≤4294967296 ^ (n + 1):=by
   have h1:=Zem dV
   rw [hV] at h1
   exact Nat.le_of_lt (Nat.lt_of_lt_of_le h1 (Nat.pow_le_pow_right (by decide) (Nat.le_succ n)))
  obtain ⟨k1,k2⟩:=ZyJ f7 hYB key hlt2 hq3 key4 hlt4
  refine ⟨W3.set n d3,?_,hlen4,dW4,k2⟩
  have hq : val W / val V = q' - 1:=by rw [k1,Nat.add_sub_cancel]
  have hq0 : 1≤q':=by rw [k1]; exact Nat.le_add_left 1 _
  rw [hq]
  rw [show ((1 : Nat) : Int) = 1 from rfl] at call
  have w8 : ((q' : Int) - 1) % 18446744073709551616 = ((q' - 1 : Nat) : Int):=by omega
  have w10 : ((q' - 1 : Nat) : Int) % 4294967296 = ((q' - 1 : Nat) : Int):=by omega
  clear key k1 k2 hset hdm hlt2 f1 f2 f3 f4 f5 f6 hv1 lt hq2 hq3 key4 hset3 hYB hdd hv3 hlt4 hq
  repeat (first | (simp (maxSteps:=9^7) only [seval,evB,Zer,l0,l1,l2,l3,l4,i1,w0,w1,w2,w3,w4,w5,w6,w7,w8,w9,w10,h2,hr,hr2,hr3,call,st,st3 ]) | (simp (disch:=omega) only [dsB,Zed]))
def KeepsAll (h0 h : Heap) (v : AV) : Prop:=∀ bv lv,Holds h0 bv lv→Holds h bv lv∧∀ b o n s,v = .own b o n s→b≠bv
theorem Znj {h0 h : Heap} {v : AV} {l : List Nat} (B : Bld h v l) (K : KeepsAll h0 h v) {w : Int} (hw : 0≤w) (hl : l.length < 1099511627776) :
  KeepsAll h0 (appH h v w) (.own (h.b.length + 1) 0 (l.length + 1) 1):=by
 intro bv lv H0
 obtain ⟨HH,hne⟩:=K bv lv H0
 obtain ⟨hf,hB⟩:=B
 have e0 : sliceCells (Heap.mem ⟨h.b ++ [⟨[.int .u32 w],false⟩],h.f⟩) 1 (.own h.b.length 0 1 1) = some (1,cells [w.toNat]):=by
  have : (Heap.mem ⟨h.b ++ [⟨[.int .u32 w],false⟩],h.f⟩) h.b.length = some ⟨cells [w.toNat],false⟩:=by
   simp [Heap.mem,cells,Int.toNat_of_nonneg hw]
  simp [sliceCells,rdBlk,this,cells]
 have key : ∃ h',appV ⟨h.b ++ [⟨[.int .u32 w],false⟩],h.f⟩ 1 4 v (.own h.b.length 0 1 1) = some (.own (h.b.length + 1) 0 (l.length + 1) 1,h') ∧
   h'.f = h.f∧h'.b[bv]? = h.b[bv]?:=by
  rcases hB with ⟨rfl,rfl⟩ | ⟨b,l2,rfl,H⟩
  ·refine ⟨⟨(h.b ++ [⟨[.int .u32 w],false⟩]) ++ [⟨cells [w.toNat],false⟩],h.f⟩,?_,rfl,?_⟩
   ·simp only [appV,e0,Nat.succ_ne_zero,if_false]
    rw [if_pos (by decide)]
    simp
   ·show (h.b ++ _ ++ _)[bv]? = _
    rw [List.getElem?_append_left (by simp only [List.length_append]; have:=HH.lt; omega),List.getElem?_append_left HH.lt]
  ·refine ⟨⟨(h.b ++ [(⟨[.int .u32 w],false⟩ : Blk)]).set b ⟨cells (l ++ l2),true⟩ ++ [⟨cells (l ++ [w.toNat]),false⟩],h.f⟩,?_,rfl,?_⟩
   ·simp only [appV,e0]
    rw [List.getElem?_append_left H.lt,H.at_]
    simp only
    rw [if_pos ⟨trivial,trivial,H.fre,by rw [Zbp,List.length_append]; omega,by simp only [boundApp]; omega⟩]
    simp only [List.length_append,List.length_cons,List.length_nil,List.drop_zero,Nat.mul_one]
    rw [ZfX,List.take_left' rfl,ZqI,Nat.zero_add]
   ·have hb : b≠bv:=hne _ _ _ _ rfl
    show ((h.b ++ _).set b _ ++ _)[bv]? = _
    rw [List.getElem?_append_left (by rw [List.length_set,List.length_append]; have:=HH.lt; omega),List.getElem?_set_ne hb,List.getElem?_append_left HH.lt]
 obtain ⟨h',k1,k2,k3⟩:=key
 have e : appH h v w = h':=by simp only [appH,k1,Option.getD_some]
 rw [e]
 refine ⟨⟨by rw [k3]; exact HH.at_,by rw [k2]; exact HH.fre⟩,?_⟩
 intro b o n s hv
 have:=HH.lt
 injection hv with hb
 omega
theorem ZuW {h0 : Heap} {a : List Nat} {z : Bool} {q s : Nat} (ha : Dg a) (hs : s < 32) (hb : q + a.length < 549755813888) : ∀ (m i : Nat) (h : Heap) (v : AV) (l : List Nat) (c : Nat),
  m + i = a.length→Bld h v l→KeepsAll h0 h v→Dg l→l.length = q + i→c < 2 ^ s→val l + 4294967296 ^ (q + i) * c = 4294967296 ^ q * 2 ^ s * val (a.take i) →
  Post (evL G T Zdo [(5,v),(6,.int .i64 (s : Int)),(7,.int .u32 (c : Int)),(24,D z a),(25,.int .i64 ((a.length : Nat) : Int)),(26,.int .i64 (i : Int))] h) fun r =>
   ∃ e h' v' l',∃ c' : Nat,r = (.exit 0,(5,v') :: (6,.int .i64 (s : Int)) :: (7,.int .u32 (c' : Int)) :: e,h')∧Bld h' v' l'∧KeepsAll h0 h' v'∧Dg l'∧l'.length = q + a.length∧c' < 2 ^ s∧val (l' ++ [c']) = 4294967296 ^ q * 2 ^ s * val a
 | 0,i,h,v,l,c,hm,B,K,hd,hl,hc,he => by
  rw [Zaf G T (c:=Zdo) rfl]
  have h1 : ¬ (i : Int) < a.length:=by omega
  repeat (first | (simp (maxSteps:=9^7) only [seval,evB,Zgh,h1]) | (simp (disch:=omega) only [dsB]))
  refine Post.some ⟨_,_,_,_,_,rfl,B,K,hd,by omega,hc,?_⟩
  rw [List.take_of_length_le (by omega)] at he
  rw [Zdn,hl,he]
 | m + 1,i,h,v,l,c,hm,B,K,hd,hl,hc,he => by
  rw [Zaf G T (c:=Zdo) rfl]
  have ha':=ha.dg i
  have e7 : (i : Int) + 1 = ((i + 1 : Nat) : Int):=by omega
  have h1 : (i : Int) < a.length:=by omega
  have hk:=Zpv hc ha'
  have hp : (2 : Nat) ^ s≤2 ^ 31:=Nat.pow_le_pow_right (by decide) (by omega)
  have w1 : (dg a i : Int) % 18446744073709551616 = dg a i:=by omega
  have w2 : min s 32 = s:=by omega
  have w3 : (dg a i : Int) * 2 ^ s % 4294967296 = ((dg a i * 2 ^ s % 4294967296 : Nat) : Int):=by
   rw [Zbk,← Int.natCast_mul]; omega
  have w4 : orI .u32 ((dg a i * 2 ^ s % 4294967296 : Nat) : Int) (c : Int) = ((c + dg a i * 2 ^ s % 4294967296 : Nat) : Int):=by
   rw [or32 (by omega) (by omega),Nat.or_comm,Zqq (by omega),ZlD hc]
  have w5 : (32 - (s : Int)) = ((32 - s : Nat) : Int):=by omega
  have w6 : min (32 - s) 64 = 32 - s:=by omega
  have w7 : (dg a i : Int) / 2 ^ (32 - s) = ((dg a i / 2 ^ (32 - s) : Nat) : Int):=by rw [Zbk]; rfl
  have hsm : dg a i * 2 ^ s % 4294967296 + c < 4294967296:=by
   have e0:=Zqq (x:=dg a i) (s:=s) (by omega)
   have e1 : dg a i % 2 ^ (32 - s) < 2 ^ (32 - s):=Nat.mod_lt _ (Nat.two_pow_pos _)
   have e2 : (dg a i % 2 ^ (32 - s) + 1) * 2 ^ s≤2 ^ (32 - s) * 2 ^ s:=Nat.mul_le_mul_right _ e1
   rw [← Nat.pow_add,show 32 - s + s = 32 by omega,Nat.add_mul] at e2
   omega
  have hcd : (dg a i * 2 ^ s % 4294967296 + c) + 4294967296 * (dg a i * 2 ^ s / 4294967296) = c + dg a i * 2 ^ s:=by omega
  have hcl : dg a i * 2 ^ s / 4294967296 < 2 ^ s:=by
   refine Nat.lt_of_le_of_lt ?_ hk
   exact Nat.div_le_div_right (by omega)
  have w8 : ((dg a i / 2 ^ (32 - s) : Nat) : Int) % 4294967296 = ((dg a i * 2 ^ s / 4294967296 : Nat) : Int):=by
   rw [ZrB (by omega)]; omega
  repeat (first | (simp (maxSteps:=9^7) only [seval,evB,Zgh,h1,w1,w2,w3,w4,w5,w6,w7,w8 ]) | (simp (disch:=omega) only [dsB,Zkw B]))
  rw [e7]
  refine ZuW ha hs hb m (i + 1) _ _ _ _ (by omega) (ZcW B (by omega) (by omega)).2 (Znj B K (by omega) (by omega)) (ZbV hd (by omega)) (by rw [List.length_append,hl]; rfl) hcl ?_
  rw [Zab]
  refine ZsI (j:=q + i) (q:=q) (i:=i) hl rfl he ?_
  rw [Int.toNat_natCast,Nat.add_comm c]; exact hcd
theorem ZtX (J : Al G T g) {h : Heap} (hf : FreH h) {z : Bool} {a n : Nat} (ha : a≠0) (hs : (dl a).length < 137438953472) (hn : n < 1099511627776) :
  ∃ b l2 h',kJ G ZgM.res (evL G T ZgM.body (numE 0 [D z (dl a),.int .i64 (n : Int)]) h) = some (.own b 0 (dl (a * 2 ^ n)).length 1,h')∧Holds h' b (dl (a * 2 ^ n) ++ l2)∧Dg l2∧FreH h'∧KeepsAll h h' (.own b 0 (dl (a * 2 ^ n)).length 1):=by
 have h0 : ¬ ((dl a).length : Int) = 0:=by
  intro hc
  exact ha (Zfl.1 (List.length_eq_zero_iff.1 (by omega)))
 have hnm : n / 32≤n / 32 + (dl a).length + 1:=by omega
 have K0 : KeepsAll h (new h (List.replicate (n / 32 + (dl a).length + 1) 0)) (.own h.b.length 0 (n / 32) 1):=fun bv lv H => ⟨H.new,fun b o n s hv => by have:=H.lt; injection hv with hb; omega⟩
 obtain ⟨r,hr,e,h',v',l',c',rfl,B,K,hd,hl,hc,hv⟩:=ZuW (G:=G) (T:=T) (z:=z) (q:=n / 32) (s:=n % 32) (ZaC a) (by omega) (by omega) (dl a).length 0 _ _ _ 0 rfl (ZsO hf (n / 32) _ hnm) K0 (Zjb _) (by simp) (Nat.two_pow_pos _) (by simp [ZsJ,val])
 rw [cast0] at hr
 have hp : c' < 4294967296:=by
  have : (2 : Nat) ^ (n % 32)≤2 ^ 31:=Nat.pow_le_pow_right (by decide) (by omega)
  omega
 have m1 : (((n / 32 : Nat) : Int) + ((dl a).length : Nat) + 1).toNat = n / 32 + (dl a).length + 1:=by omega
 obtain ⟨hap,HB,B2⟩:=ZkX B (w:=(c' : Int)) (by omega) (by omega)
 have K2:=Znj B K (w:=(c' : Int)) (by omega) (by omega)
 rw [Int.toNat_natCast] at HB
 have hd2:=ZbV hd hp
 have hlen : (l' ++ [c']).length = l'.length + 1:=by rw [List.length_append]; rfl
 obtain ⟨n',e',ht,hn',htk⟩:=Zqv (G:=G) (T:=T) HB hd2 (by omega) (l'.length + 1) (by omega)
 rw [← hlen,List.take_length,hv,ZaN,pow32,← Nat.pow_add,show 32 * (n / 32) + n % 32 = n by omega,Nat.mul_comm] at htk
 have hn2 : n' = (dl (a * 2 ^ n)).length:=by rw [← htk,List.length_take]; omega
 subst hn2
 have hw1 : IntKind.i64.wrap ((n / 32 : Nat) : Int) = ((n / 32 : Nat) : Int):=Zad (by omega)
 refine ⟨h'.b.length + 1,(l' ++ [c']).drop (dl (a * 2 ^ n)).length,appH h' v' c',?_,?_,hd2.drop _,B2.1,?_⟩
 ·repeat (first | (simp (maxSteps:=9^7) only [seval,evB,ZgM,h0,hw1,m1,hr,hap,Zaw G T J.A.ZbM,ZfV,ht]) | (simp (disch:=omega) only [dsB]))
 ·rw [← htk,List.length_take,Nat.min_eq_left hn',List.take_append_drop]; exact HB
 ·intro bv lv H
  obtain ⟨k1,k2⟩:=K2 bv lv H
  exact ⟨k1,fun b o n s hv => by injection hv with hb; subst hb; exact k2 _ _ _ _ rfl⟩
theorem ZGv {h : Heap} {b n : Nat} {l : List Nat} (H : Holds h b l) (hn : n≤l.length) {lo hi : Nat} (h1 : lo≤hi∧hi≤n∧lo < n) :
  evSlice h.mem 1 (.own b 0 n 1) (some (.int .i64 (lo : Int))) (some (.int .i64 (hi : Int))) = some (.own b lo (hi - lo) 1):=by
 simp only [evSlice,lenA,capA,bound,H.mem,Bool.false_eq_true,if_false,Nat.succ_ne_zero,Zbp]
 rw [if_pos (by refine ⟨by omega,by omega,?_⟩; omega),if_pos ⟨trivial,Or.inr (by omega)⟩]
 have e0 : ((hi : Int) - (lo : Int)).toNat = hi - lo:=by omega
 rw [e0,Int.toNat_natCast,Nat.mul_one,Nat.zero_add]
theorem ZzR {n j N : Nat} {U0 R V : List Nat} (hn : 2≤n) (hs : N < 17179869184) (hV : V.length = n) (dV : Dg V) (d0 : Dg U0) (dR : Dg R) (top : 2147483648≤dg V (n - 1)) (hU : U0.length = N) (hR : R.length = N - (j + 1)) (hj : j + 1 + n≤N) (hlt : val R < val V) :
  StepPre ((dg U0 j :: R).take (n + 1)) V n∧val ((dg U0 j :: R).take (n + 1)) = dg U0 j + 4294967296 * val R∧val ((dg U0 j :: R).drop (n + 1)) = 0:=by
 have dX : Dg (dg U0 j :: R):=Zen.2 ⟨d0.dg j,dR⟩
 have hX : val (dg U0 j :: R) < 4294967296 * val V:=by
  rw [ZaJ]; have:=d0.dg j; omega
 have hVb:=Zem dV
 rw [hV] at hVb
 have hB : val (dg U0 j :: R) < 4294967296 ^ (n + 1):=by
  rw [Nat.pow_succ,Nat.mul_comm]
  exact Nat.lt_of_lt_of_le hX (Nat.mul_le_mul_left _ (Nat.le_of_lt hVb))
 have e1:=ZuX dX (n + 1)
 have e2:=Znb dX (n + 1)
 rw [Nat.mod_eq_of_lt hB] at e1
 rw [Nat.div_eq_of_lt hB] at e2
 refine ⟨⟨hn,by omega,?_,hV,dX.take _,dV,top,by rw [e1]; exact hX⟩,by rw [e1,ZaJ],e2⟩
 rw [List.length_take,List.length_cons]; omega
theorem Zxz {U0 Q V : List Nat} {j q r X R : Nat} (hj : j < U0.length) (hq : j < Q.length) (h : val (U0.drop (j + 1)) = val (Q.drop (j + 1)) * val V + R) (hX : X = dg U0 j + 4294967296 * R) :
  val (U0.drop j) = val ((Q.set j (X / val V)).drop j) * val V + X % val V:=by
 rw [ZdY hj,Ztl hq,ZaJ,ZaJ,h]
 have h2:=Nat.div_add_mod X (val V)
 generalize X / val V = a at *
 generalize X % val V = b at *
 rw [Nat.mul_add,Nat.add_mul,Nat.mul_assoc,Nat.mul_comm a]
 generalize val (Q.drop (j + 1)) * val V = c at *
 omega
theorem Zra (J : Al G T g) {bu bv bq n N m : Nat} {U0 C V V2 : List Nat} {s : AV} (h1 : bv≠bu) (h2 : bq≠bu) (h3 : bv≠bq) (hn : 2≤n) (hs : N < 17179869184) (hV : V.length = n) (dV : Dg V) (d0 : Dg U0) (top : 2147483648≤dg V (n - 1)) (hU : U0.length = N) (hm : N = m + n) :
  ∀ (j : Nat) (h : Heap) (R Q : List Nat),j≤m→Holds h bu (U0.take j ++ R ++ C)→Holds h bv (V ++ V2)→Holds h bq Q→Dg R→R.length = N - j→Dg Q→Q.length = m→val R < val V→val (U0.drop j) = val (Q.drop j) * val V + val R →
  Post (evL G T ZfF [(6,s),(7,.own bv 0 n 1),(8,.own bu 0 N 1),(9,.int .i64 (n : Int)),(10,.own bq 0 m 1),(11,.int .i64 ((j : Int) - 1))] h) fun r =>
   ∃ e h' R' Q',r = (.exit 2,(6,s) :: (7,.own bv 0 n 1) :: (8,.own bu 0 N 1) :: (9,.int .i64 (n : Int)) :: (10,.own bq 0 m 1) :: e,h')∧Holds h' bu (R' ++ C)∧Holds h' bq Q'∧Dg R'∧R'.length = N∧Dg Q'∧Q'.length = m∧val R' < val V∧val U0 = val Q' * val V + val R'
 | 0,h,R,Q,hj,HU,HV,HQ,dR,hR,dQ,hQ,hlt,he => by
  rw [Zaf G T (c:=ZfF) rfl]
  have c1 : ¬ (0 : Int)≤((0 : Nat) : Int) - 1:=by omega
  repeat (first | (simp (maxSteps:=9^7) only [seval,evB,Zii,c1]) | (simp (disch:=omega) only [dsB]))
  rw [List.take_zero,List.nil_append] at HU
  exact Post.some ⟨_,_,_,_,rfl,HU,HQ,dR,hR,dQ,hQ,hlt,he⟩
 | j + 1,h,R,Q,hj,HU,HV,HQ,dR,hR,dQ,hQ,hlt,he => by
  rw [Zaf G T (c:=ZfF) rfl]
  have e1 : ((j + 1 : Nat) : Int) - 1 = (j : Int):=by omega
  have c1 : (0 : Int)≤(j : Int):=by omega
  obtain ⟨p,v1,v2⟩:=ZzR (j:=j) (U0:=U0) (R:=R) (N:=N) hn hs hV dV d0 dR top hU hR (by omega) hlt
  have hls:=Zxz (U0:=U0) (Q:=Q) (V:=V) (j:=j) (q:=0) (r:=0) (by omega) (by omega) he v1
  have hlen : (dg U0 j :: R).length = N - j:=by rw [List.length_cons]; omega
  have dX : Dg (dg U0 j :: R):=Zen.2 ⟨d0.dg j,dR⟩
  have hsp : U0.take (j + 1) ++ R ++ C = U0.take j ++ (dg U0 j :: R).take (n + 1) ++ ((dg U0 j :: R).drop (n + 1) ++ C):=by
   rw [ZjS (by omega)]
   simp only [List.append_assoc,List.singleton_append]
   rw [← List.append_assoc (List.take (n + 1) _),List.take_append_drop,List.cons_append]
  have hcl : N≤(U0.take (j + 1) ++ R ++ C).length:=by
   simp only [List.length_append,List.length_take]; omega
  have sl:=ZGv HU hcl (lo:=j) (hi:=j + n + 1) ⟨by omega,by omega,by omega⟩
  rw [show j + n + 1 - j = n + 1 by omega] at sl
  have e2 : (j : Int) + (n : Int) + 1 = ((j + n + 1 : Nat) : Int):=by omega
  rw [hsp] at HU
  have htl : (U0.take j).length = j:=by rw [List.length_take]; omega
  obtain ⟨W',hst,hW',dW',hv'⟩:=Zqb (G:=G) J HU HV h1 p
  rw [htl] at hst
  simp only [ZlC,ZmS,Nat.reduceAdd,Nat.zero_add] at hst
  have hlt' : val W' < val V:=by rw [hv']; exact Nat.mod_lt _ (by have:=Zem dV; omega)
  have HU':=HU.put (U0.take j ++ W' ++ ((dg U0 j :: R).drop (n + 1) ++ C))
  have HV':=HV.other (l:=U0.take j ++ W' ++ ((dg U0 j :: R).drop (n + 1) ++ C)) h1
  have HQ':=HQ.other (l:=U0.take j ++ W' ++ ((dg U0 j :: R).drop (n + 1) ++ C)) h2
  have st:=Zdu HQ' (i:=j) (x:=val (List.take (n + 1) (dg U0 j :: R)) / val V) (by omega)
  have hqd : val (List.take (n + 1) (dg U0 j :: R)) / val V < 4294967296:=ZqL p.lt (Nat.le_refl _)
  have HU2:=HU'.other (l:=Q.set j (val (List.take (n + 1) (dg U0 j :: R)) / val V)) h2.symm
  have HV2:=HV'.other (l:=Q.set j (val (List.take (n + 1) (dg U0 j :: R)) / val V)) h3
  have HQ2:=HQ'.put (Q.set j (val (List.take (n + 1) (dg U0 j :: R)) / val V))
  rw [e1]
  repeat (first | (simp (maxSteps:=9^7) only [seval,evB,Zii,c1,e2,sl,Zaw G T J.A.Zqb,hst,st]) | (simp (disch:=omega) only [dsB]))
  have hR2 : val (W' ++ (dg U0 j :: R).drop (n + 1)) = val W':=by rw [ZoB,v2,Nat.mul_zero,Nat.add_zero]
  have hl : U0.take j ++ (W' ++ (dg U0 j :: R).drop (n + 1)) ++ C = U0.take j ++ W' ++ ((dg U0 j :: R).drop (n + 1) ++ C):=by simp only [List.append_assoc]
  refine Zra J h1 h2 h3 hn hs hV dV d0 top hU hm j _ (W' ++ (dg U0 j :: R).drop (n + 1)) _ (by omega) (by rw [hl]; exact HU2) HV2 HQ2 (ZAw.2 ⟨dW',dX.drop _⟩) ?_ (ZeZ dQ hqd) (by rw [List.length_set]; exact hQ) (by rw [hR2]; exact hlt') ?_
  ·rw [List.length_append,List.length_drop,hW',hlen]; omega
  ·rw [hR2,hv']; exact hls
theorem ZzJ {h0 h : Heap} {b La : Nat} {L C A : List Nat} {za : Bool} {s6 s7 : AV} (H : Holds h b (L ++ C)) (hf : FreH h) (dL : Dg L) (hL : L.length = La) (hs : A.length < 17179869184) (hlen : La = A.length∨La = A.length + 1) (K : KeepsAll h0 h (.own b 0 La 1)) :
  Post (evL G T ZdJ [(0,D za A),(6,s6),(7,s7),(8,.own b 0 La 1)] h) fun r =>
   ∃ e h' b' C' U,r = (.exit 0,(0,D za A) :: (6,s6) :: (7,s7) :: (8,.own b' 0 (A.length + 1) 1) :: e,h')∧Holds h' b' (U ++ C')∧FreH h'∧U.length = A.length + 1∧Dg U∧val U = val L∧KeepsAll h0 h' (.own b' 0 (A.length + 1) 1):=by
 subst hL
 rw [Zaf G T (c:=ZdJ) rfl]
 rcases hlen with hl | hl
 ·have c1 : ((L.length : Nat) : Int)≤((A.length : Nat) : Int):=by omega
  have B : Bld h (.own b 0 L.length 1) L:=⟨hf,Or.inr ⟨b,C,rfl,H⟩⟩
  obtain ⟨ha1,ha2,ha3⟩:=ZkX B (w:=0) (by decide) (by omega)
  have K2:=Znj B K (w:=0) (by decide) (by omega)
  have c2 : ¬ (((L.length + 1 : Nat) : Int)≤((A.length : Nat) : Int)):=by omega
  have e : Post (evL G T ZdJ [(0,D za A),(6,s6),(7,s7),(8,.own (h.b.length + 1) 0 (L.length + 1) 1)] (appH h (.own b 0 L.length 1) 0)) fun r =>
   ∃ e h' b' C' U,r = (.exit 0,(0,D za A) :: (6,s6) :: (7,s7) :: (8,.own b' 0 (A.length + 1) 1) :: e,h')∧Holds h' b' (U ++ C')∧FreH h'∧U.length = A.length + 1∧Dg U∧val U = val L∧KeepsAll h0 h' (.own b' 0 (A.length + 1) 1):=by
   rw [Zaf G T (c:=ZdJ) rfl]
   repeat (first | (simp (maxSteps:=9^7) only [seval,evB,ZfE,c2]) | (simp (disch:=omega) only [dsB]))
   refine Post.some ⟨_,_,_,[],L ++ [0],by rw [hl],by rw [List.append_nil]; exact ha2,ha3.1,by rw [List.length_append,hl]; rfl,ZbV dL (by decide),by rw [Zdn,Nat.mul_zero,Nat.add_zero],by rw [← hl]; exact K2⟩
  repeat (first | (simp (maxSteps:=9^7) only [seval,evB,ZfE,c1,ha1]) | (simp (disch:=omega) only [dsB]))
  exact e
 ·have c1 : ¬ (((L.length : Nat) : Int)≤((A.length : Nat) : Int)):=by omega
  repeat (first | (simp (maxSteps:=9^7) only [seval,evB,ZfE,c1]) | (simp (disch:=omega) only [dsB]))
  exact Post.some ⟨_,_,_,C,L,by rw [hl],H,hf,hl,dL,rfl,by rw [← hl]; exact K⟩
theorem ZzS {b n s : Nat} (hn : (dl b).length = n) (h0 : 0 < n) (hs : s = 32 - blen (dg (dl b) (n - 1))) : s < 32∧(dl (b * 2 ^ s)).length = n∧2147483648≤dg (dl (b * 2 ^ s)) (n - 1):=by
 have hb0 : b≠0:=by rintro rfl; rw [Zaq] at hn; simp at hn; omega
 have hbl:=Zpt hb0
 rw [hn] at hbl
 have ht : blen (dg (dl b) (n - 1))≤32:=Zae.2 ((ZaC b).dg _)
 have hb1:=Zaa b
 rw [hn] at hb1
 have hm:=Zap hb0 s
 have e1 : blen (b * 2 ^ s) = 32 * n:=by omega
 have e2 : (dl (b * 2 ^ s)).length = n:=by rw [Zaa]; omega
 have hm0 : b * 2 ^ s≠0:=Nat.mul_ne_zero hb0 (Nat.ne_of_gt (Nat.two_pow_pos s))
 have e3:=Zpt hm0
 rw [e2,e1] at e3
 have e4 : 31 < blen (dg (dl (b * 2 ^ s)) (n - 1)):=by omega
 exact ⟨by omega,e2,ZaA.1 e4⟩
theorem Zvu {a b s m n N : Nat} {U : List Nat} (dU : Dg U) (hN : U.length = N) (hU : val U = a * 2 ^ s) (ha : (dl a).length + 1 = N) (hb : (dl b).length = n) (h0 : 0 < n) (hm : N = m + n) : val (U.drop m) < b * 2 ^ s:=by
 rw [Znb dU,hU]
 apply Nat.div_lt_of_lt_mul
 have h1 : a < 4294967296 ^ (N - 1):=ZbU.1 (by omega)
 have h2 : 4294967296 ^ (n - 1)≤b:=by
  apply Classical.byContradiction; intro hc
  have:=ZbU.2 (Nat.lt_of_not_le hc)
  omega
 have h3 : a < 4294967296 ^ m * b:=by
  refine Nat.lt_of_lt_of_le h1 ?_
  rw [show N - 1 = m + (n - 1) by omega,Nat.pow_add]
  exact Nat.mul_le_mul_left _ h2
 rw [← Nat.mul_assoc]
 exact Nat.mul_lt_mul_of_pos_right h3 (Nat.two_pow_pos s)
theorem ZpZ (J : Al G T g) {z y : Bool} {a b : Nat} (hb : 2≤(dl b).length) (hab : b≤a) (hs : (dl a).length < 8589934592) : ∃ z1 z2,run G T 109 [D z (dl a),D y (dl b)] = some (.tup [D z1 (dl (a / b)),D z2 (dl (a % b))]):=by
 obtain ⟨n,hn⟩ : ∃ n,n = (dl b).length:=⟨_,rfl⟩
 obtain ⟨s,hs1⟩ : ∃ s,s = 32 - blen (dg (dl b) (n - 1)):=⟨_,rfl⟩
 obtain ⟨t1,t2,t3⟩:=ZzS hn.symm (by omega) hs1
 have hb0 : b≠0:=by rintro rfl; rw [Zaq] at hb; exact absurd hb (by decide)
 have ha0 : a≠0:=by omega
 have hle : (dl b).length≤(dl a).length:=by
  have h1:=ZaF hab
  have h2:=Zaa a
  have h3:=Zaa b
  omega
 obtain ⟨bv,V2,h1,r1,H1,dV2,F1,K1⟩:=ZtX (G:=G) (z:=y) J (h:=.nil) FreH.nil hb0 (by omega) (n:=s) (by omega)
 obtain ⟨bu,l2,h2,r2,H2,d2,F2,K2⟩:=ZtX (G:=G) (z:=z) J (h:=h1) F1 ha0 (by omega) (n:=s) (by omega)
 simp only [ZlC,ZmS,Nat.reduceAdd,Nat.zero_add] at r1 r2
 have hLa : (dl (a * 2 ^ s)).length = (dl a).length∨(dl (a * 2 ^ s)).length = (dl a).length + 1:=by
  rw [Zaa,Zaa,Zap ha0]; omega
 obtain ⟨_,r3,e3,h3,bu3,C3,U,rfl,H3,F3,hUl,dU,hUv,K3⟩:=ZzJ (G:=G) (T:=T) (h0:=h1) (za:=z) (s6:=.int .i64 (s : Int)) (s7:=.own bv 0 n 1) H2 F2 (ZaC _) rfl (A:=dl a) (by omega) hLa K2
 rw [ZaN] at hUv
 obtain ⟨HV3,hne3⟩:=K3 _ _ H1
 obtain ⟨m,hm⟩ : ∃ m,(dl a).length + 1 = m + n:=⟨(dl a).length + 1 - n,by omega⟩
 have hfirst:=Zvu dU hUl hUv rfl hn.symm (by omega) hm
 have HQ:=ZbN F3 (List.replicate m 0)
 have HU4:=H3.new (m:=List.replicate m 0)
 have HV4:=HV3.new (m:=List.replicate m 0)
 have q1 : bv≠bu3:=(hne3 _ _ _ _ rfl).symm
 have q2 : h3.b.length≠bu3:=by have:=H3.lt; omega
 have q3 : bv≠h3.b.length:=by have:=HV3.lt; omega
 have vV : val (dl (b * 2 ^ s)) = b * 2 ^ s:=ZaN _
 obtain ⟨_,r4,e4,h4,R,Q,rfl,HU5,HQ5,dR,hR,dQ,hQ,hlt,hv⟩:=Zra (G:=G) (m:=m) (N:=(dl a).length + 1) (n:=n) (s:=.int .i64 (s : Int)) J q1 q2 q3 (by omega) (by omega) t2 (ZaC _) dU t3 hUl hm m (new h3 (List.replicate m 0)) (U.drop m) (List.replicate m 0) (Nat.le_refl _) (by rw [List.take_append_drop]; exact HU4) HV4 HQ (dU.drop _) (by rw [List.length_drop,hUl]) (Zjb _) (List.length_replicate ..) (by rw [vV]; exact hfirst) (by
  have : (List.replicate m 0).drop m = []:=List.drop_eq_nil_of_le (by rw [List.length_replicate]; exact Nat.le_refl _)
  rw [this]; simp [val])
 rw [vV] at hlt hv
 rw [hUv] at hv
 have hq : val Q = a / b:=by
  have h1:=(Znu hlt hv).1
  rw [h1,Nat.mul_div_mul_right _ _ (Nat.two_pow_pos s)]
 have hr : val R = a % b * 2 ^ s:=by
  have h1:=(Znu hlt hv).2
  rw [h1,Nat.mul_mod_mul_right]
 have hRn : val (R.take n) = val R:=by
  rw [ZuX dR,Nat.mod_eq_of_lt]
  refine Nat.lt_of_lt_of_le hlt ?_
  have:=Zem (ZaC (b * 2 ^ s))
  rw [t2,ZaN] at this
  exact Nat.le_of_lt this
 obtain ⟨z1,hz1⟩:=ZbM J (z:=false) dQ (by omega)
 obtain ⟨z2,hz2⟩:=ZbM J (z:=false) (dR.take n) (by rw [List.length_take]; omega)
 rw [hRn,hr] at hz2
 rw [hq] at hz1
 have hsb : (dl (a % b * 2 ^ s)).length≤n:=by
  have:=ZbU.1 (Nat.le_refl (dl (b * 2 ^ s)).length)
  rw [t2] at this
  exact ZbU.2 (Nat.lt_of_le_of_lt (Nat.mul_le_mul_right _ (Nat.le_of_lt (Nat.mod_lt a (by omega)))) this)
 obtain ⟨z3,hz3⟩:=ZlA J (z:=z2) (a:=a % b * 2 ^ s) (n:=s) (by omega) (by omega)
 rw [Nat.mul_div_cancel _ (Nat.two_pow_pos s)] at hz3
 have hsl : (dl (a % b)).length < 1099511627776:=by
  have h1:=ZaF (Nat.le_of_lt (Nat.mod_lt a (Nat.pos_of_ne_zero hb0)))
  have h2:=Zaa (a % b)
  have h3:=Zaa b
  omega
 obtain ⟨z4,hz4⟩:=ZbM J (z:=z3) (ZaC (a % b)) hsl
 rw [ZaN] at hz4
 have sq:=Zcq HQ5 (n:=m) (by omega)
 rw [← hQ,List.take_length,hQ] at sq
 have su:=Zcq HU5 (n:=n) (by rw [List.length_append]; omega)
 rw [List.take_append_of_le_length (by omega)] at su
 have slu:=ZBU (n:=(dl a).length + 1) (off:=0) (k:=.i64) (j:=(n : Int)) HU5.mem ⟨by omega,by rw [Int.toNat_natCast]; omega⟩
 rw [Int.toNat_natCast] at slu
 have i1 : ((dl b).length : Int) - 1 = (((dl b).length - 1 : Nat) : Int):=by omega
 have lz:=ZCG (G:=G) J ((ZaC b).dg (n - 1))
 rw [← hs1] at lz
 have w1 : (((dl a).length + 1 : Nat) : Int) - (n : Int) = (m : Int):=by omega
 have mm : ∀ f : List Nat,(⟨h4.b,f⟩ : Heap).mem = h4.mem:=fun _ => rfl
 refine ⟨z1,z4,?_⟩
 rw [Zac G T J.A.ZpZ]
 clear hLa hUv hfirst hlt hv hq hr hRn hsb hsl
 subst hn
 rw [t2] at r1
 repeat (first | (simp (maxSteps:=9^7) only [seval,evB,Zka,i1,lz,Zaw G T J.A.Zri,r1,r2,r3,r4,w1,sq,hz1,slu,su,hz2,hz3,hz4,mm,ZnG]) | (simp (disch:=omega) only [dsB]))
theorem Zzn (e : Env) (h : Heap) : evL G T Zji e h = kS G T (evL G T Zjh (keepE [5,6,7] e) h) Zji:=Zaf G T rfl e h
theorem ZHh (x y : AV) (k : IntKind) : iaddrV 1 (.imm 2 [x,y]) (.int k 0) = some (.iptr [x,y] 0):=rfl
theorem ZHi (x y : AV) (k : IntKind) : iaddrV 1 (.imm 2 [x,y]) (.int k 1) = some (.iptr [x,y] 1):=rfl
theorem ZHt (h : Mem) (x y : AV) : rdAt G h 1 (.iptr [x,y] 0) = some [x]:=rfl
theorem ZHu (h : Mem) (x y : AV) : rdAt G h 1 (.iptr [x,y] 1) = some [y]:=rfl
theorem Zjx (J : Al G T g) {z y : Bool} {a b : List Nat} : run G T 106 [.imm 2 [D z a,D y b]] = some (.bool (mayL a && mayL b)):=by
 rw [Zac G T J.A.Zjx]
 have h1:=Zby (G:=G) J z a
 have h2:=Zby (G:=G) J y b
 cases ha : mayL a <;> cases hb : mayL b <;> (
  rw [ha] at h1
  rw [hb] at h2
  repeat' (first|simp (maxSteps:=9^7) only [seval,exC,Zle,h1,h2,Zzn,Zjh,ZHh,ZHi,ZHt,ZHu]|simp (maxSteps:=9^7) (disch:=first|with_reducible assumption|omega) only [dxB]|(simp only [kdB];split)|(simp only [kvB];split))
  all_goals rfl)
theorem Zwa {h : Heap} {z : Bool} {l : List Nat} (hl : l≠[]) (hs : l.length < 549755813888) : appV h 1 4 .nil (D z l) = some (.own h.b.length 0 l.length 1,new h l):=by
 cases l with
 | nil => exact absurd rfl hl
 | cons a l =>
  have e : sliceCells h.mem 1 (D z (a :: l)) = some ((a :: l).length,cells (a :: l)):=by
   simp [D,sliceCells,cells]
  simp only [appV,e]
  rw [if_neg (by simp),if_pos (by simp only [boundApp]; omega)]
  rfl
theorem ZsU {h : Heap} {z : Bool} : appV h 1 4 .nil (D z []) = some (.nil,h):=by
 cases z <;> rfl
theorem ZfO {a b : Nat} : cmpN a b < 0↔a < b:=by
 unfold cmpN; split
 ·constructor <;> intro <;> omega
 ·split <;> constructor <;> intro <;> omega
theorem ZAj {h : Heap} (hf : FreH h) (l : List Nat) : snapG (new h l).mem 3 h.b.length 0 l.length 1 = some (D false l):=by
 have:=Zcq (ZbN hf l) (n:=l.length) (Nat.le_refl _)
 rw [List.take_length] at this; exact this
theorem ZeA (J : Al G T g) {z y : Bool} {a b : Nat} (ha : mayL (dl a) = true) (hb : mayL (dl b) = true) (h0 : b≠0) :
  ∃ z1 z2,run G T 77 [D z (dl a),D y (dl b)] = some (.tup [D z1 (dl (a / b)),D z2 (dl (a % b)),.int .i64 0]):=by
 have la:=(ZaV.1 ha).1
 have lb:=(ZaV.1 hb).1
 have h1:=Zjx (G:=G) J (z:=z) (y:=y) (a:=dl a) (b:=dl b)
 rw [ha,hb,Bool.and_self] at h1
 have h2:=ZkM (G:=G) J (z:=z) (y:=y) (a:=a) (b:=b) (by omega) (by omega)
 have hl0 : ¬ ((dl b).length : Int) = 0:=by
  intro hc; exact h0 (Zaz.1 (by omega))
 by_cases hab : a < b
 ·have c1 : cmpN a b < 0:=ZfO.2 hab
  rw [Nat.div_eq_of_lt hab,Nat.mod_eq_of_lt hab,Zaq]
  by_cases ha0 : a = 0
  ·subst ha0
   rw [Zaq] at *
   refine ⟨true,true,?_⟩
   rw [Zac G T J.A.ZeA]
   clear la lb ha hb hab
   repeat' (first|simp (maxSteps:=9^7) only [seval,exC,Zct,h1,h2,hl0,c1,ZsU]|simp (maxSteps:=9^7) (disch:=first|with_reducible assumption|omega) only [dxB]|(simp only [kdB];split)|(simp only [kvB];split))
   rfl
  ·have hne : dl a≠[]:=fun hc => ha0 (Zfl.1 hc)
   refine ⟨true,false,?_⟩
   rw [Zac G T J.A.ZeA]
   clear ha hb hab
   repeat' (first|simp (maxSteps:=9^7) only [seval,exC,Zct,h1,h2,hl0,c1 ]|simp (maxSteps:=9^7) (disch:=first|with_reducible assumption|omega) only [dxB,Zwa]|(simp only [kdB];split)|(simp only [kvB];split))
   have hsn:=ZAj (h:={ b:=[{ cs:=[D z (dl a),D y (dl b)] }],f:=fz1 (AV.bool true) [0] }) (fun c hc => absurd hc List.not_mem_nil) (dl a)
   simp only [List.length_cons,List.length_nil,Nat.zero_add] at hsn
   rw [hsn]
   rfl
 ·have c1 : ¬ cmpN a b < 0:=fun hc => hab (ZfO.1 hc)
  by_cases hb1 : (dl b).length = 1
  ·have hd0 : dl b = [b]:=by
    have e1 : b < 4294967296:=by have:=ZbU.1 (Nat.le_of_eq hb1); simpa using this
    rw [ZmD h0,Nat.mod_eq_of_lt e1,Nat.div_eq_of_lt e1,Zaq]
   have e1 : b < 4294967296:=by have:=ZbU.1 (Nat.le_of_eq hb1); simpa using this
   have hr : a % b < b:=Nat.mod_lt _ (by omega)
   obtain ⟨z1,hz1⟩:=Zoa (G:=G) J (z:=z) (a:=a) (d:=b) (by omega) e1 (by omega)
   obtain ⟨z2,hz2⟩:=ZbM (G:=G) J (z:=false) (l:=[a % b]) (Zen.2 ⟨by omega,Dg.nil⟩) (by simp)
   rw [show val [a % b] = a % b by simp [val]] at hz2
   have hz2 : run G T 94 [.imm 1 [.int .u32 ((a % b : Nat) : Int)]] = some (D z2 (dl (a % b))):=hz2
   have hdb : dg (dl b) 0 = b:=by rw [hd0]; rfl
   have hb1' : ((dl b).length : Int) = 1:=by omega
   refine ⟨z1,z2,?_⟩
   rw [Zac G T J.A.ZeA]
   clear ha hb hab hr
   repeat' (first|simp (maxSteps:=9^7) only [seval,exC,Zct,h1,h2,hl0,c1,hb1',hdb,hz1,hz2]|simp (maxSteps:=9^7) (disch:=first|with_reducible assumption|omega) only [dxB]|(simp only [kdB];split)|(simp only [kvB];split))
  ·have hb2 : ¬ ((dl b).length : Int) = 1:=by omega
   have hb3 : ¬ (dl b).length = 0:=by omega
   obtain ⟨z1,z2,hz⟩:=ZpZ (G:=G) J (z:=z) (y:=y) (a:=a) (b:=b) (by omega) (by omega) (by omega)
   refine ⟨z1,z2,?_⟩
   rw [Zac G T J.A.ZeA]
   clear ha hb hab
   repeat' (first|simp (maxSteps:=9^7) only [seval,exC,Zct,h1,h2,hl0,c1,hb2,hz]|simp (maxSteps:=9^7) (disch:=first|with_reducible assumption|omega) only [dxB]|(simp only [kdB];split)|(simp only [kvB];split))
theorem ZuR (J : Al G T g) {h : Heap} {b N : Nat} {Q X l0 : List Nat} {zq zx : Bool} {va : AV} (H : Holds h b l0) (dQ : Dg Q) (dX : Dg X) (hs : N < 17179869184) : ∀ (m i : Nat) (l : List Nat) (c : Nat),m + i = N→l.length = N→Dg l→c≤1→val (l.take i) + 4294967296 ^ i * c = val (Q.take i) + val (X.take i) →
  Post (evL G T ZfB [(0,va),(5,D zx X),(6,D zq Q),(9,.own b 0 N 1),(10,.int .u32 (c : Int)),(42,.int .i64 (N : Int)),(43,.int .i64 (i : Int))] (put h b l)) fun r =>
   ∃ e l' c',r = (.exit 2,(0,va) :: (5,D zx X) :: (6,D zq Q) :: (9,.own b 0 N 1) :: (10,.int .u32 ((c' : Nat) : Int)) :: e,put h b l')∧l'.length = N∧Dg l'∧val l' + 4294967296 ^ N * c' = val (Q.take N) + val (X.take N)
 | 0,i,l,c,hm,hl,dl',hc,he => by
  rw [Zaf G T (c:=ZfB) rfl]
  have h1 : ¬ (i : Int) < (N : Int):=by omega
  repeat (first | (simp (maxSteps:=9^7) only [seval,evB,ZcG,h1]) | (simp (disch:=omega) only [dsB]))
  obtain rfl : i = N:=by omega
  rw [List.take_of_length_le (by omega)] at he
  exact Post.some ⟨_,_,_,rfl,hl,dl',he⟩
 | m + 1,i,l,c,hm,hl,dl',hc,he => by
  rw [Zaf G T (c:=ZfB) rfl]
  have h1 : (i : Int) < (N : Int):=by omega
  have e7 : (i : Int) + 1 = ((i + 1 : Nat) : Int):=by omega
  have HU:=H.put l
  have hx:=dX.dg i
  have hq:=dQ.dg i
  obtain ⟨d,z,hd1,hz,hdz⟩:=ZvY hq hx hc
  have call:=Zhv (G:=G) J hq hx hc hd1 hz hdz
  have st:=Zdu HU (i:=i) (x:=d) (by omega)
  rw [Zjz] at st
  have fin:=ZuR J (zq:=zq) (zx:=zx) (va:=va) H dQ dX hs m (i + 1) (l.set i d) z (by omega) (by rw [List.length_set]; exact hl) (ZeZ dl' hd1) hz (by
   rw [ZuU (by omega),Zab,Zab]
   exact ZmL (by rw [List.length_take]; omega) he (by omega))
  by_cases c1 : (i : Int) < (Q.length : Int)
  ·by_cases c2 : (i : Int) < (X.length : Int)
   ·repeat (first | (simp (maxSteps:=9^7) only [seval,evB,ZcG,h1,c1,c2,e7,call,st]) | (simp (disch:=omega) only [dsB]))
    exact fin
   ·have z2 : dg X i = 0:=ZiA (by omega)
    rw [z2,cast0] at call
    repeat (first | (simp (maxSteps:=9^7) only [seval,evB,ZcG,h1,c1,c2,e7,call,st]) | (simp (disch:=omega) only [dsB]))
    exact fin
  ·have z1 : dg Q i = 0:=ZiA (by omega)
   rw [z1,cast0] at call
   by_cases c2 : (i : Int) < (X.length : Int)
   ·repeat (first | (simp (maxSteps:=9^7) only [seval,evB,ZcG,h1,c1,c2,e7,call,st]) | (simp (disch:=omega) only [dsB]))
    exact fin
   ·have z2 : dg X i = 0:=ZiA (by omega)
    rw [z2,cast0] at call
    repeat (first | (simp (maxSteps:=9^7) only [seval,evB,ZcG,h1,c1,c2,e7,call,st]) | (simp (disch:=omega) only [dsB]))
    exact fin
theorem newton {a x : Nat} (ha : 0 < a) (hx : 0 < x) : a < ((a / x + x) / 2 + 1) * ((a / x + x) / 2 + 1)∧0 < (a / x + x) / 2:=by
 have h1:=Nat.div_add_mod a x
 have h2:=Nat.mod_lt a hx
 generalize hq : a / x = q at *
 constructor
 ·obtain ⟨w,hw⟩ : ∃ w,w = (q + x) / 2 + 1:=⟨_,rfl⟩
  rw [← hw]
  have h3 : q + x + 1≤2 * w:=by omega
  have h4 : (q + 1 + x) * (q + 1 + x)≤(2 * w) * (2 * w):=Nat.mul_le_mul (by omega) (by omega)
  have h5 : 4 * ((q + 1) * x)≤(q + 1 + x) * (q + 1 + x):=by
   rcases Nat.le_total (q + 1) x with h | h
   ·obtain ⟨d,rfl⟩:=Nat.exists_eq_add_of_le h
    generalize q + 1 = p
    have : (p + (p + d)) * (p + (p + d)) = 4 * (p * (p + d)) + d * d:=by
     simp only [Nat.mul_add,Nat.add_mul,Nat.mul_comm d p]; omega
    omega
   ·obtain ⟨d,hd⟩:=Nat.exists_eq_add_of_le h
    rw [hd]
    have : (x + d + x) * (x + d + x) = 4 * ((x + d) * x) + d * d:=by
     simp only [Nat.mul_add,Nat.add_mul,Nat.mul_comm d x]; omega
    omega
  have h6 : (2 * w) * (2 * w) = 4 * (w * w):=by
   rw [Nat.mul_mul_mul_comm]
  have h7 : a < (q + 1) * x:=by rw [Nat.add_mul,Nat.one_mul,Nat.mul_comm]; omega
  omega
 ·apply Classical.byContradiction
  intro hc
  have h3 : q + x≤1:=by omega
  obtain rfl : x = 1:=by omega
  obtain rfl : q = 0:=by omega
  omega
theorem Zvv {a x : Nat} (hx : 0 < x) (h : x≤(a / x + x) / 2) : x * x≤a:=by
 have h1 : x≤a / x:=by omega
 exact (Nat.le_div_iff_mul_le hx).1 h1
theorem Zrp {h : Heap} {b : Nat} {l : List Nat} (H : Holds h b l) : reachG h.mem 3 b = [b]:=by
 cases h with
 | mk bs fs => rw [rg_x,H.at_,Zqh,Zqi]
theorem ZvO {h : Heap} {b : Nat} {l : List Nat} (H : Holds h b l) (hf : FreH h) (r : AV) : FreH ⟨h.b,fz1 r [b] ++ h.f⟩:=by
 intro c hc
 rcases List.mem_append.1 hc with h1 | h1
 ·unfold fz1 at h1
  split at h1
  ·have:=List.mem_singleton.1 h1; subst this; exact H.lt
  ·exact absurd h1 List.not_mem_nil
 ·exact hf c h1
theorem ZwH {a b : Nat} : cmpN a b = 0↔a = b:=by
 unfold cmpN; split
 ·constructor <;> intro <;> omega
 ·split <;> constructor <;> intro <;> omega
theorem Zyo (J : Al G T g) {z : Bool} {a : Nat} (ha : mayL (dl a) = true) (ha0 : 0 < a) : ∀ (x : Nat) (h : Heap) (zx : Bool),FreH h→0 < x→mayL (dl x) = true→a < (x + 1) * (x + 1) →
  Post (evL G T Zig [(0,D z (dl a)),(5,D zx (dl x))] h) fun R =>
   ∃ e h' r z',R = (.ret,(2,D z' (dl r)) :: (3,.bool (decide (r * r = a))) :: (4,.int .i64 0) :: e,h')∧r * r≤a∧a < (r + 1) * (r + 1):=by
 intro x
 induction x using Nat.strongRecOn with
 | ind x ih =>
  intro h zx hf hx hmx hlt
  rw [Zaf G T (c:=Zig) rfl]
  have la:=(ZaV.1 ha).1
  have lx:=(ZaV.1 hmx).1
  obtain ⟨zq,zr,hq⟩:=ZeA (G:=G) J (z:=z) (y:=zx) ha hmx (by omega)
  have hqa : a / x≤a:=Nat.div_le_self _ _
  have lq : (dl (a / x)).length≤4096:=by
   have h1:=ZaF hqa
   have h2:=Zaa (a / x)
   have h3:=Zaa a
   omega
  obtain ⟨nw1,nw2⟩:=newton ha0 hx
  have nw3:=Zvv (a:=a) hx
  generalize a / x = q at *
  obtain ⟨N,hN⟩ : ∃ N,N = max (dl q).length (dl x).length + 1:=⟨_,rfl⟩
  have e1 : max ((dl q).length : Int) ((dl x).length : Int) + 1 = (N : Int):=by omega
  have H0:=ZbN hf (List.replicate N 0)
  obtain ⟨_,hr,e,l',c',rfl,hl,dl2,hv⟩:=ZuR (G:=G) (zq:=zq) (zx:=zx) (va:=D z (dl a)) J H0 (ZaC q) (ZaC x) (N:=N) (by omega) N 0 (List.replicate N 0) 0 (by omega) (List.length_replicate ..) (Zjb _) (by decide) (by simp [val])
  rw [Zuh H0,cast0] at hr
  rw [List.take_of_length_le (by omega),List.take_of_length_le (by omega),ZaN,ZaN] at hv
  have hl4:=Zem dl2
  rw [hl] at hl4
  have hsum : q + x < 4294967296 ^ N:=by
   have h1 : q < 4294967296 ^ (N - 1):=ZbU.1 (by omega)
   have h2 : x < 4294967296 ^ (N - 1):=ZbU.1 (by omega)
   have h3 : 4294967296 ^ N = 4294967296 ^ (N - 1) * 4294967296:=by rw [← Nat.pow_succ,show (N - 1).succ = N by omega]
   rw [h3]; omega
  have hval : val l' = q + x:=by
   rcases Nat.eq_zero_or_pos c' with h1 | h1
   ·subst h1; rw [Nat.mul_zero] at hv; omega
   ·have : 4294967296 ^ N * 1≤4294967296 ^ N * c':=Nat.mul_le_mul_left _ h1
    omega
  have H1:=H0.put l'
  have hsn:=Zcq H1 (n:=N) (by omega)
  rw [← hl,List.take_length,hl] at hsn
  obtain ⟨z1,hz1⟩:=ZbM (G:=G) J (z:=false) dl2 (by omega)
  rw [hval] at hz1
  have lsum : (dl (q + x)).length≤N:=ZbU.2 hsum
  obtain ⟨z2,hz2⟩:=ZlA (G:=G) J (z:=z1) (a:=q + x) (n:=1) (by omega) (by decide)
  rw [Nat.pow_one,show ((1 : Nat) : Int) = 1 from rfl] at hz2
  generalize hy : (q + x) / 2 = y at *
  have ly : (dl y).length≤N:=by
   have h1:=ZaF (a:=y) (b:=q + x) (by omega)
   have h2:=Zaa y
   have h3:=Zaa (q + x)
   omega
  have hc:=ZkM (G:=G) J (z:=z2) (y:=zx) (a:=y) (b:=x) (by omega) (by omega)
  have hf2 : FreH ⟨(put (new h (List.replicate N 0)) h.b.length l').b,fz1 (D z1 (dl (q + x))) [h.b.length] ++ (put (new h (List.replicate N 0)) h.b.length l').f⟩:=ZvO H1 ((hf.new _).put _ _) _
  have hre:=Zrp H1
  by_cases c1 : y < x
  ·have c2 : ¬ 0≤cmpN y x:=by have:=ZfO.2 c1; omega
   have hmy : mayL (dl y) = true:=by
    rw [ZaV]; refine ⟨?_,ZCx _⟩
    have h1:=ZaF (Nat.le_of_lt c1)
    have h2:=Zaa y
    have h3:=Zaa x
    omega
   have fin:=ih y c1 _ z2 hf2 nw2 hmy nw1
   clear nw1 nw3 ih hv hl4 hsum hlt hy
   repeat (first | (simp (maxSteps:=9^7) only [seval,evB,Zif,hq,Zju,e1,hr,hsn,hz1,hz2,hc,c2,ZnG,hre]) | (simp (disch:=omega) only [dsB]))
   exact fin
  ·have c2 : 0≤cmpN y x:=by
    have : ¬ cmpN y x < 0:=fun hh => c1 (ZfO.1 hh)
    omega
   obtain ⟨z3,hz3⟩:=Zqa (G:=G) J (z:=zx) (y:=zx) (a:=x) (b:=x) (by omega)
   have lxx : (dl (x * x)).length≤8192:=by
    have h1:=Zaa (x * x)
    have h2:=Zaa x
    have h3 : blen (x * x)≤blen x + blen x:=by
     rw [Zae,Nat.pow_add]
     exact Nat.mul_lt_mul'' (ZaH x) (ZaH x)
    omega
   have hc3:=ZkM (G:=G) J (z:=z3) (y:=z) (a:=x * x) (b:=a) (by omega) (by omega)
   have hd : decide (cmpN (x * x) a = 0) = decide (x * x = a):=decide_eq_decide.2 ZwH
   have fin:=nw3 (by omega)
   clear nw1 nw3 ih hv hl4 hsum hy
   repeat (first | (simp (maxSteps:=9^7) only [seval,evB,Zif,hq,Zju,e1,hr,hsn,hz1,hz2,hc,c2,ZnG,hre,hz3,hc3,hd]) | (simp (disch:=omega) only [dsB]))
   exact Post.some ⟨_,_,_,_,rfl,fin,hlt⟩
theorem ZmR (J : Al G T g) {z : Bool} {a : Nat} (ha : mayL (dl a) = true) :
  ∃ r z',run G T 81 [D z (dl a)] = some (.tup [D z' (dl r),.bool (decide (r * r = a)),.int .i64 0])∧r * r≤a∧a < (r + 1) * (r + 1):=by
 have la:=(ZaV.1 ha).1
 have h1:=Zby (G:=G) J z (dl a)
 rw [ha] at h1
 by_cases h0 : a = 0
 ·subst h0
  rw [Zaq] at *
  refine ⟨0,true,?_,by decide,by decide⟩
  rw [Zac G T J.A.ZmR,Zaq]
  clear la ha
  repeat' (first|simp (maxSteps:=9^7) only [seval,exC,ZhB,h1]|simp (maxSteps:=9^7) (disch:=first|with_reducible assumption|omega) only [dxB]|(simp only [kdB];split)|(simp only [kvB];split))
  rfl
 ·have hl : ¬ ((dl a).length : Int) = 0:=fun hc => h0 (Zaz.1 (by omega))
  have h2:=Zgu (G:=G) J (z:=z) ha
  have hb : blen a≤131072:=Zee ha
  have w1 : ((blen a : Nat) : Int) + 1 = ((blen a + 1 : Nat) : Int):=by omega
  have w2 : ((blen a + 1 : Nat) : Int).tdiv 2 = (((blen a + 1) / 2 : Nat) : Int):=rfl
  have w3 : ((blen a + 1 : Nat) : Int) / 2 = (((blen a + 1) / 2 : Nat) : Int):=rfl
  have ltb:=ZaH a
  have hk : blen a≤2 * ((blen a + 1) / 2):=by omega
  have hk2 : (blen a + 1) / 2≤65536:=by omega
  generalize (blen a + 1) / 2 = k at *
  have d1 : dl 1 = [1]:=by rw [ZmD (by decide),Nat.mod_eq_of_lt (by decide),Nat.div_eq_of_lt (by decide),Zaq]
  obtain ⟨zx,hz⟩:=Zri (G:=G) J (z:=false) (a:=1) (n:=k) (by rw [d1]; decide) (by omega)
  rw [Nat.one_mul,d1] at hz
  have hz2 : run G T 91 [.imm 1 [.int .u32 1],.int .i64 (k : Int)] = some (D zx (dl (2 ^ k))):=hz
  have H0 : Holds ⟨[⟨[.int .u32 1],false⟩],[]⟩ 0 [1]:=⟨rfl,rfl⟩
  have hre:=Zrp H0
  have hf : FreH ⟨[⟨[.int .u32 1],false⟩],fz1 (D zx (dl (2 ^ k))) [0] ++ []⟩:=ZvO H0 (fun c hc => absurd hc List.not_mem_nil) _
  rw [List.append_nil] at hf
  have hmx : mayL (dl (2 ^ k)) = true:=Zau (by
   have:=ZCL (n:=2 ^ k) (k:=k) (Nat.le_refl _) (Nat.pow_lt_pow_right (by decide) (Nat.lt_succ_self k)); omega)
  have hlt : a < (2 ^ k + 1) * (2 ^ k + 1):=by
   have e1 : a < 2 ^ k * 2 ^ k:=by
    rw [← Nat.pow_add]
    exact Nat.lt_of_lt_of_le ltb (Nat.pow_le_pow_right (by decide) (by omega))
   exact Nat.lt_of_lt_of_le e1 (Nat.mul_le_mul (by omega) (by omega))
  obtain ⟨_,hr,e,h',r,z',rfl,p1,p2⟩:=Zyo (G:=G) J (z:=z) ha (by omega) (2 ^ k) _ zx hf (Nat.two_pow_pos k) hmx hlt
  refine ⟨r,z',?_,p1,p2⟩
  rw [Zac G T J.A.ZmR]
  clear ltb hk hlt hmx p1 p2 ha hf
  repeat' (first|simp (maxSteps:=9^7) only [seval,exC,ZhB,h1,h2,hl,w1,w2,w3,hz,hz2,hre,hr]|simp (maxSteps:=9^7) (disch:=first|with_reducible assumption|omega) only [dxB]|(simp only [kdB];split)|(simp only [kvB];split))
theorem Zvf (h : Heap) : snapG (Heap.mem ⟨h.b ++ [⟨[.int .u32 1],false⟩],h.f⟩) 3 h.b.length 0 1 1 = some (D false [1]):=by
 have e : (Heap.mem ⟨h.b ++ [⟨[.int .u32 1],false⟩],h.f⟩) h.b.length = some ⟨cells [1],false⟩:=by
  simp [Heap.mem,cells]
 exact ZlU (d:=2) (l:=[1]) (by rw [rdBlk,e]; rfl) rfl
theorem Zxc {a i : Nat} : a / 2 ^ i = 4 * (a / 2 ^ (i + 2)) + (2 * (a / 2 ^ (i + 1) % 2) + a / 2 ^ i % 2):=by
 rw [Nat.pow_succ,Nat.pow_succ,← Nat.div_div_eq_div_mul,← Nat.div_div_eq_div_mul]; omega
theorem ZAf {r s v p : Nat} (h : p = r * r + s) (hs : s≤2 * r) (hv : v < 4) (hc : 4 * r + 1≤4 * s + v) :
  4 * p + v = (2 * r + 1) * (2 * r + 1) + (4 * s + v - (4 * r + 1))∧4 * s + v - (4 * r + 1)≤2 * (2 * r + 1):=by
 have e : (2 * r + 1) * (2 * r + 1) = 4 * (r * r) + 4 * r + 1:=by
  simp only [Nat.mul_add,Nat.add_mul,Nat.mul_one,Nat.one_mul]
  have : 2 * r * (2 * r) = 4 * (r * r):=by rw [Nat.mul_mul_mul_comm]
  omega
 rw [e,h]; omega
theorem ZDF {r s v p : Nat} (h : p = r * r + s) (hc : 4 * s + v < 4 * r + 1) :
  4 * p + v = (2 * r) * (2 * r) + (4 * s + v)∧4 * s + v≤2 * (2 * r):=by
 have e : 2 * r * (2 * r) = 4 * (r * r):=by rw [Nat.mul_mul_mul_comm]
 rw [e,h]; omega
theorem ZAe {r s a : Nat} (h : a = r * r + s) (hs : s≤2 * r) : r * r≤a∧a < (r + 1) * (r + 1)∧(s = 0↔r * r = a):=by
 have e : (r + 1) * (r + 1) = r * r + 2 * r + 1:=by
  simp only [Nat.mul_add,Nat.add_mul,Nat.mul_one,Nat.one_mul]; omega
 rw [e]; omega
theorem Zoq {r t a : Nat} (h1 : r * r≤a) (h2 : a < (r + 1) * (r + 1)) (h3 : t * t≤a) (h4 : a < (t + 1) * (t + 1)) : r = t:=by
 rcases Nat.lt_trichotomy r t with h | h | h
 ·have : (r + 1) * (r + 1)≤t * t:=Nat.mul_le_mul h h
  omega
 ·exact h
 ·have : (t + 1) * (t + 1)≤r * r:=Nat.mul_le_mul h h
  omega
theorem Ztf (bs : List Blk) (f : List Nat) : snapG (Heap.mem ⟨bs ++ [⟨[.int .u32 1],false⟩],f⟩) 3 bs.length 0 1 1 = some (D false [1]):=Zvf ⟨bs,f⟩
theorem ZHf {x k : Nat} (h : x < 2 ^ k) : (dl x).length≤(k + 31) / 32:=by
 have h1:=Zaa x
 have h2:=Zae.2 h
 omega
theorem Zmx (J : Al G T g) {a : Nat} {z : Bool} (ha : (dl a).length < 1073741824) : ∀ (j : Nat) (h : Heap) (zr zs : Bool) (r s : Nat),
  2 * j < 68719476736→a / 2 ^ (2 * j) = r * r + s→s≤2 * r →
  Post (evL G T Zcv [(0,D z (dl a)),(4,D zr (dl r)),(5,D zs (dl s)),(7,.int .i64 (2 * (j : Int) - 2))] h) fun R =>
   ∃ e h' zr' zs' r' s',R = (.exit 0,(0,D z (dl a)) :: (4,D zr' (dl r')) :: (5,D zs' (dl s')) :: e,h')∧a = r' * r' + s'∧s'≤2 * r'
 | 0,h,zr,zs,r,s,hj,he,hs => by
  rw [Zaf G T (c:=Zcv) rfl]
  have c1 : ¬ (0 : Int)≤2 * ((0 : Nat) : Int) - 2:=by omega
  repeat (first | (simp (maxSteps:=9^7) only [seval,evB,ZdM,c1]) | (simp (disch:=omega) only [dsB]))
  rw [Nat.mul_zero,Nat.pow_zero,Nat.div_one] at he
  exact Post.some ⟨_,_,_,_,_,_,rfl,he,hs⟩
 | j + 1,h,zr,zs,r,s,hj,he,hs => by
  rw [Zaf G T (c:=Zcv) rfl]
  have e1 : 2 * ((j + 1 : Nat) : Int) - 2 = ((2 * j : Nat) : Int):=by omega
  have e2 : ((2 * j : Nat) : Int) - 2 = 2 * (j : Int) - 2:=by omega
  have e3 : ((2 * j : Nat) : Int) + 1 = ((2 * j + 1 : Nat) : Int):=by omega
  have c1 : (0 : Int)≤((2 * j : Nat) : Int):=by omega
  have u1:=ZjA (G:=G) J (z:=z) (a:=a) (i:=2 * j + 1) (by omega) (by omega)
  have u0:=ZjA (G:=G) J (z:=z) (a:=a) (i:=2 * j) (by omega) (by omega)
  have hfd:=Zxc (a:=a) (i:=2 * j)
  rw [show 2 * j + 2 = 2 * (j + 1) by omega,he] at hfd
  have b1 : a / 2 ^ (2 * j + 1) % 2 < 2:=Nat.mod_lt _ (by decide)
  have b0 : a / 2 ^ (2 * j) % 2 < 2:=Nat.mod_lt _ (by decide)
  generalize a / 2 ^ (2 * j + 1) % 2 = t1 at *
  generalize a / 2 ^ (2 * j) % 2 = t0 at *
  have hra : r * r≤a:=by
   have:=Nat.div_le_self a (2 ^ (2 * (j + 1))); omega
  have hr0 : r≤a:=Nat.le_trans (Nat.le_mul_self r) hra
  have lr : ∀ x,x≤16 * a + 16→(dl x).length < 1073741900:=fun x hx => by
   have h1 : a < 2 ^ blen a:=ZaH a
   have h2:=ZHf (x:=x) (k:=blen a + 6) (by rw [Nat.pow_add]; omega)
   have h3:=Zaa a
   omega
  have w1 : mulW 2 (t1 : Int) = ((2 * t1 : Nat) : Int):=by rw [Zsq]; omega
  have w2 : (((2 * t1 : Nat) : Int) + (t0 : Int)) % 4294967296 = ((2 * t1 + t0 : Nat) : Int):=by omega
  have w3 : ((2 * t1 + t0 : Nat) : Int) % 18446744073709551616 = ((2 * t1 + t0 : Nat) : Int):=by omega
  obtain ⟨z1,v1⟩:=ZfQ (G:=G) J (z:=zs) (a:=s) (n:=2) (by have:=lr s (by omega); omega) (by decide)
  obtain ⟨z2,v2⟩:=ZlJ (G:=G) J (n:=2 * t1 + t0) (by omega)
  obtain ⟨z3,v3⟩:=Zgv (G:=G) J (z:=z1) (y:=z2) (a:=s * 2 ^ 2) (b:=2 * t1 + t0) (by have:=lr (s * 2 ^ 2) (by omega); omega) (by have:=lr (2 * t1 + t0) (by omega); omega)
  obtain ⟨z4,v4⟩:=ZfQ (G:=G) J (z:=zr) (a:=r) (n:=2) (by have:=lr r (by omega); omega) (by decide)
  obtain ⟨z5,v5⟩:=Zgv (G:=G) J (z:=z4) (y:=false) (a:=r * 2 ^ 2) (b:=1) (by have:=lr (r * 2 ^ 2) (by omega); omega) (by rw [ZoS]; decide)
  obtain ⟨z6,v6⟩:=ZfQ (G:=G) J (z:=zr) (a:=r) (n:=1) (by have:=lr r (by omega); omega) (by decide)
  obtain ⟨z7,v7⟩:=Zgv (G:=G) J (z:=z6) (y:=false) (a:=r * 2 ^ 1) (b:=1) (by have:=lr (r * 2 ^ 1) (by omega); omega) (by rw [ZoS]; decide)
  have cm:=ZlH (G:=G) J (z:=z3) (y:=z5) (a:=s * 2 ^ 2 + (2 * t1 + t0)) (b:=r * 2 ^ 2 + 1) (by have:=lr (s * 2 ^ 2 + (2 * t1 + t0)) (by omega); omega) (by have:=lr (r * 2 ^ 2 + 1) (by omega); omega)
  rw [ZoS] at v5 v7
  rw [show ((2 : Nat) : Int) = 2 from rfl] at v1 v4
  rw [show ((1 : Nat) : Int) = 1 from rfl] at v6
  rw [e1]
  by_cases c2 : s * 2 ^ 2 + (2 * t1 + t0) < r * 2 ^ 2 + 1
  ·have c3 : ¬ 0≤cmpN (s * 2 ^ 2 + (2 * t1 + t0)) (r * 2 ^ 2 + 1):=by have:=ZfO.2 c2; omega
   obtain ⟨p1,p2⟩:=ZDF (p:=r * r + s) (v:=2 * t1 + t0) rfl (by omega)
   have fin:=fun h => Zmx J (z:=z) ha j h z6 z3 (r * 2 ^ 1) (s * 2 ^ 2 + (2 * t1 + t0)) (by omega) (by rw [hfd,p1,show r * 2 ^ 1 = 2 * r by omega,show s * 2 ^ 2 = 4 * s by omega]) (by omega)
   clear hfd he hra hr0 lr p1 p2 hs c2
   repeat (first | (simp (maxSteps:=9^7) only [seval,evB,ZdM,c1,e2,e3,u1,u0,w1,w2,w3,v1,v2,v3,v4,v5,v6,Ztf,cm,c3]) | (simp (disch:=omega) only [dsB]))
   exact fin _
  ·have c3 : 0≤cmpN (s * 2 ^ 2 + (2 * t1 + t0)) (r * 2 ^ 2 + 1):=by
    have : ¬ cmpN (s * 2 ^ 2 + (2 * t1 + t0)) (r * 2 ^ 2 + 1) < 0:=fun hh => c2 (ZfO.1 hh)
    omega
   obtain ⟨z8,v8⟩:=ZjB (G:=G) J (z:=z3) (y:=z5) (a:=s * 2 ^ 2 + (2 * t1 + t0)) (b:=r * 2 ^ 2 + 1) (by have:=lr (s * 2 ^ 2 + (2 * t1 + t0)) (by omega); omega) (by omega)
   obtain ⟨p1,p2⟩:=ZAf (p:=r * r + s) (v:=2 * t1 + t0) rfl hs (by omega) (by omega)
   have fin:=fun h => Zmx J (z:=z) ha j h z7 z8 (r * 2 ^ 1 + 1) (s * 2 ^ 2 + (2 * t1 + t0) - (r * 2 ^ 2 + 1)) (by omega) (by rw [hfd,p1,show r * 2 ^ 1 = 2 * r by omega,show s * 2 ^ 2 = 4 * s by omega,show r * 2 ^ 2 = 4 * r by omega]) (by omega)
   clear hfd he hra hr0 lr p1 p2 hs c2
   repeat (first | (simp (maxSteps:=9^7) only [seval,evB,ZdM,c1,e2,e3,u1,u0,w1,w2,w3,v1,v2,v3,v4,v5,v6,v7,v8,Ztf,cm,c3]) | (simp (disch:=omega) only [dsB]))
   exact fin _
theorem Zmq (J : Al G T g) {a : Nat} {z : Bool} (ha : (dl a).length < 1073741824) :
  ∃ r z',run G T 82 [D z (dl a)] = some (.tup [D z' (dl r),.bool (decide (r * r = a))])∧r * r≤a∧a < (r + 1) * (r + 1):=by
 have hla:=Zaa a
 have l1:=Zeg (G:=G) J (z:=z) (a:=a) (by omega)
 obtain ⟨j,hj⟩ : ∃ j,j = (blen a + 1) / 2:=⟨_,rfl⟩
 have h0 : a / 2 ^ (2 * j) = 0 * 0 + 0:=by
  rw [Nat.div_eq_of_lt (Nat.lt_of_lt_of_le (ZaH a) (Nat.pow_le_pow_right (by decide) (by omega)))]
 obtain ⟨_,hr,e,h',zr',zs',r',s',rfl,he,hs⟩:=Zmx (G:=G) (z:=z) J ha j .nil true true 0 0 (by omega) h0 (by decide)
 obtain ⟨p1,p2,p3⟩:=ZAe he hs
 have hr : evL G T Zcv [(0,D z (dl a)),(4,.nil),(5,.nil),(7,.int .i64 (2 * (j : Int) - 2))] ⟨[],[]⟩ = some (Ex.exit 0,(0,D z (dl a)) :: (4,D zr' (dl r')) :: (5,D zs' (dl s')) :: e,h'):=by
  rw [Zaq] at hr; exact hr
 have hd : decide (((dl s').length : Int) = 0) = decide (r' * r' = a):=by
  refine decide_eq_decide.2 ?_
  rw [← p3,← Zaz]; omega
 refine ⟨r',zr',?_,p1,p2⟩
 rw [Zac G T J.B.Zmq]
 have w1 : ((blen a : Nat) : Int).tmod 2 = ((blen a % 2 : Nat) : Int):=rfl
 have w2 : ((blen a : Nat) : Int) % 2 = ((blen a % 2 : Nat) : Int):=rfl
 by_cases ho : blen a % 2 = 1
 ·have c1 : ((blen a % 2 : Nat) : Int) = 1:=by omega
  have e1 : ((blen a : Nat) : Int) + 1 - 2 = 2 * (j : Int) - 2:=by omega
  have w3 : IntKind.i64.wrap (((blen a : Nat) : Int) + 1) = ((blen a : Nat) : Int) + 1:=Zad (by omega)
  have w4 : IntKind.i64.wrap (2 * (j : Int) - 2) = 2 * (j : Int) - 2:=Zad (by omega)
  clear h0 he hs p1 p2 p3 hla ha
  repeat' (first|simp (maxSteps:=9^7) only [seval,exC,Zfd,l1,w1,w2,c1,w3,e1,w4,hr,hd]|simp (maxSteps:=9^7) (disch:=first|with_reducible assumption|omega) only [dxB]|(simp only [kdB];split)|(simp only [kvB];split))
 ·have c1 : ¬ ((blen a % 2 : Nat) : Int) = 1:=by omega
  have e1 : ((blen a : Nat) : Int) - 2 = 2 * (j : Int) - 2:=by omega
  have w4 : IntKind.i64.wrap (2 * (j : Int) - 2) = 2 * (j : Int) - 2:=Zad (by omega)
  clear h0 he hs p1 p2 p3 hla ha
  repeat' (first|simp (maxSteps:=9^7) only [seval,exC,Zfd,l1,w1,w2,c1,e1,w4,hr,hd]|simp (maxSteps:=9^7) (disch:=first|with_reducible assumption|omega) only [dxB]|(simp only [kdB];split)|(simp only [kvB];split))
theorem Zkh (J : Al G T g) {n : Nat} (h : 1≤n∧n≤8192) : run G T 75 [.int .i64 (n : Int)] = some (.int .i64 0):=by
 rw [Zac G T J.C.Zkh]
 have c1 : ¬ (n : Int) < 1:=by omega
 have c2 : ¬ (8192 : Int) < (n : Int):=by omega
 repeat' (first|simp (maxSteps:=9^7) only [seval,exC,Zgz,c1,c2]|simp (maxSteps:=9^7) (disch:=first|with_reducible assumption|omega) only [dxB]|(simp only [kdB];split)|(simp only [kvB];split))
theorem ZlK (J : Al G T g) {z : Bool} {d : Dy} {k s : Nat} (hs : (dl d.m).length < 17179869183) (he : -274877906944 < d.e∧d.e < 274877906944) (hk : blen d.m = k + s) (h0 : 0 < s) (hkk : k < 8192) (hb : blen d.m < 274877906944) :
  ∃ z',run G T 80 [DyA z d,.int .i64 (k : Int)] = some (.tup [DyA z' (mkD d.n (d.m / 2 ^ s) (d.e + s)),.bool (!decide (d.m % 2 ^ s = 0))]):=by
 obtain ⟨n,m,e⟩:=d
 simp only at *
 have l1:=Zeg (G:=G) J (z:=z) (a:=m) (by omega)
 obtain ⟨z1,h1⟩:=ZhM (G:=G) J (z:=z) (a:=m) (n:=s) (by omega) (by omega)
 have hlen : (dl (m / 2 ^ s)).length < 17179869184:=by
  have h1:=ZaF (Nat.div_le_self m (2 ^ s))
  have h2:=Zaa (m / 2 ^ s)
  omega
 obtain ⟨z2,h2⟩:=Zbv (G:=G) J (n:=n) (z:=z1) (a:=m / 2 ^ s) (e:=e + s) hlen (by omega)
 have w1 : ((blen m : Nat) : Int) - (k : Int) = (s : Int):=by omega
 have w2 : ¬ (s : Int)≤0:=by omega
 have w3 : IntKind.i64.wrap (e + (s : Int)) = e + s:=Zad (by omega)
 refine ⟨z2,?_⟩
 rw [Zac G T J.C.ZlK]
 clear hlen hk
 simp only [DyA,A3] at *
 repeat' (first|simp (maxSteps:=9^7) only [seval,exC,Zgl,l1,w1,w2,w3,h1,h2]|simp (maxSteps:=9^7) (disch:=first|with_reducible assumption|omega) only [dxB]|(simp only [kdB];split)|(simp only [kvB];split))
theorem Zlm (J : Al G T g) {z n more : Bool} {q k s : Nat} {e : Int} (hm : mayL (dl q) = true) (hk : blen q = k + s) (h0 : 0 < s) (he : -16000000 < e∧e < 16000000) :
  ∃ z',run G T 78 [.bool n,D z (dl q),.int .i64 e,.bool more,.int .i64 (k : Int)] = some (.tup [DyA z' (mkD n (q / 2 ^ s) (e + s)),.bool (!decide (q % 2 ^ s = 0) || more),.int .i64 0]):=by
 have hb:=Zee hm
 have l1:=Zgu (G:=G) J (z:=z) hm
 obtain ⟨z1,h1⟩:=ZeX (G:=G) J (z:=z) (a:=q) (n:=s) hm h0 (by omega)
 have hbd:=Zam q s
 have hm2 : mayL (dl (q / 2 ^ s)) = true:=Zau (by omega)
 have htz : tz (q / 2 ^ s)≤131072∨q / 2 ^ s = 0:=by
  by_cases hz : q / 2 ^ s = 0
  ·exact Or.inr hz
  ·left; have:=Zfu hz; omega
 obtain ⟨z2,h2⟩:=ZbQ (G:=G) J (n:=n) (z:=z1) (a:=q / 2 ^ s) (e:=e + s) hm2 (by
  rcases htz with h | h
  ·right; omega
  ·left; exact h) (by omega)
 have w1 : max (0 : Int) ((blen q : Int) - (k : Int)) = (s : Int):=by omega
 have w2 : (0 : Int) - (s : Int) = -(s : Int):=by omega
 have w3 : IntKind.i64.wrap (e + (s : Int)) = e + s:=Zad (by omega)
 have w4 : IntKind.i64.wrap ((blen q : Int) - (k : Int)) = (blen q : Int) - (k : Int):=Zad (by omega)
 have w5 : IntKind.i64.wrap (-(s : Int)) = -(s : Int):=Zad (by omega)
 refine ⟨z2,?_⟩
 rw [Zac G T J.C.Zlm]
 clear hm2 htz hbd hk hb hm
 simp only [DyA,A3] at *
 generalize decide (q % 2 ^ s = 0) = o at *
 cases o <;> cases more <;> repeat' (first|simp (maxSteps:=9^7) only [seval,exC,Zid,l1,w1,w2,w3,w4,w5,Zju,h1,h2]|simp (maxSteps:=9^7) (disch:=first|with_reducible assumption|omega) only [dxB]|(simp only [kdB];split)|(simp only [kvB];split))
def quoN (k a b : Nat) : Nat:=k + 1 + blen b - blen a
theorem ZlF {k a b : Nat} (ha : a≠0) (hb : b≠0) : k < blen (a * 2 ^ quoN k a b / b):=by
 rw [ZaA]
 have h1 : 2 ^ k * b≤a * 2 ^ quoN k a b:=by
  have e1:=ZaH b
  have e2:=Zbo ha
  have e3:=ZaS ha
  calc 2 ^ k * b≤2 ^ k * 2 ^ blen b:=Nat.mul_le_mul_left _ (Nat.le_of_lt e1)
   _ = 2 ^ (k + blen b):=(Nat.pow_add ..).symm
   _≤2 ^ (blen a - 1 + quoN k a b):=Nat.pow_le_pow_right (by decide) (by unfold quoN; omega)
   _ = 2 ^ (blen a - 1) * 2 ^ quoN k a b:=Nat.pow_add ..
   _≤a * 2 ^ quoN k a b:=Nat.mul_le_mul_right _ e2
 exact (Nat.le_div_iff_mul_le (by omega)).2 h1
theorem ZCU {Q t S : Nat} (h : t≤S) : Q / 2 ^ t / 2 ^ (S - t) = Q / 2 ^ S:=by
 rw [Nat.div_div_eq_div_mul,← Nat.pow_add,show t + (S - t) = S by omega]
theorem ZDq {Q t S : Nat} (h : t≤S) (ht : Q % 2 ^ t = 0) : Q / 2 ^ t % 2 ^ (S - t) = 0↔Q % 2 ^ S = 0:=by
 have:=ZkK Q t (S - t)
 rw [show t + (S - t) = S by omega] at this
 rw [this]; exact ⟨fun h2 => ⟨ht,h2⟩,fun h2 => h2.2⟩
theorem ZDp {n : Bool} {Q t S : Nat} {e : Int} (h : Q≠0) (h2 : Q / 2 ^ t≠0) (ht : Q % 2 ^ t = 0) : mkD n (Q / 2 ^ t) (e + t) = mkD n Q e:=by
 have e1 : Q = Q / 2 ^ t * 2 ^ t:=by
  have:=Nat.div_add_mod Q (2 ^ t)
  rw [ht,Nat.add_zero,Nat.mul_comm] at this; exact this.symm
 have e2 : tz Q = tz (Q / 2 ^ t) + t:=by
  conv => lhs; rw [e1]
  exact ZCo h2 t
 rw [Zar h,Zar h2,e2,Nat.div_div_eq_div_mul,← Nat.pow_add,Nat.add_comm t]
 congr 1; omega
theorem Zrr (J : Al G T g) {z : Bool} {d : Dy} {k : Nat} (hs : (dl d.m).length < 17179869183) (hk : blen d.m≤k) (hkk : k < 8192) :
  run G T 80 [DyA z d,.int .i64 (k : Int)] = some (.tup [DyA z d,.bool false]):=by
 obtain ⟨n,m,e⟩:=d
 simp only at *
 have l1:=Zeg (G:=G) J (z:=z) (a:=m) (by omega)
 have w2 : ((blen m : Nat) : Int) - (k : Int)≤0:=by omega
 have w4 : IntKind.i64.wrap ((blen m : Int) - (k : Int)) = (blen m : Int) - (k : Int):=Zad (by omega)
 rw [Zac G T J.C.ZlK]
 clear hs hk
 simp only [DyA,A3] at *
 repeat' (first|simp (maxSteps:=9^7) only [seval,exC,Zgl,l1,w2,w4]|simp (maxSteps:=9^7) (disch:=first|with_reducible assumption|omega) only [dxB]|(simp only [kdB];split)|(simp only [kvB];split))
theorem ZzL (J : Al G T g) {n z : Bool} {Q k S : Nat} {e : Int} (hl : (dl Q).length < 1048576) (hS : blen Q = k + S) (h0 : 0 < S) (hk0 : 0 < k) (hk : k < 8192) (he : -68719476736 < e∧e < 68719476736) :
  ∃ z',run G T 80 [DyA z (mkD n Q e),.int .i64 (k : Int)] = some (.tup [DyA z' (mkD n (Q / 2 ^ S) (e + S)),.bool (!decide (Q % 2 ^ S = 0))]):=by
 have hQ : Q≠0:=by rintro rfl; rw [Zal] at hS; omega
 have hl2:=Zaa Q
 have t1:=(ZcY hQ).1
 have tm : Q % 2 ^ tz Q = 0:=by
  have:=Nat.mul_mod_left (Q / 2 ^ tz Q) (2 ^ tz Q)
  rw [← t1] at this; exact this
 have tb:=Zfu hQ
 have bd:=Zam Q (tz Q)
 have ld:=Zaa (Q / 2 ^ tz Q)
 have bS:=Zam Q S
 have hQS : Q / 2 ^ S≠0:=by intro hc; rw [hc,Zal] at bS; omega
 rcases Nat.lt_or_ge (tz Q) S with h | h
 ·obtain ⟨z',hc⟩:=ZlK (G:=G) J (z:=z) (d:=mkD n Q e) (k:=k) (s:=S - tz Q) (by rw [Zar hQ]; simp only; omega) (by rw [Zar hQ]; simp only; omega) (by rw [Zar hQ]; simp only; omega) (by omega) hk (by rw [Zar hQ]; simp only; omega)
  refine ⟨z',?_⟩
  rw [hc,Zar hQ]
  simp only
  rw [ZCU (Nat.le_of_lt h),show e + (tz Q : Int) + ((S - tz Q : Nat) : Int) = e + S by omega]
  congr 4
  simp only [ZDq (Nat.le_of_lt h) tm]
 ·have hm : Q % 2 ^ S = 0:=by
   have e1:=ZkK Q S (tz Q - S)
   rw [show S + (tz Q - S) = tz Q by omega] at e1
   exact (e1.1 tm).1
  have hc:=Zrr (G:=G) J (z:=z) (d:=mkD n Q e) (k:=k) (by rw [Zar hQ]; simp only; omega) (by rw [Zar hQ]; simp only; omega) hk
  refine ⟨z,?_⟩
  rw [hc,ZDp (t:=S) (S:=0) hQ hQS hm,hm]; rfl
theorem Zwy (e : Env) (h : Heap) : evL G T Zhk e h = kS G T (evL G T Zhj (keepE [5,6,7] e) h) Zhk:=Zaf G T rfl e h
theorem Zjn (J : Al G T g) {n z n' z' : Bool} {l l' : List Nat} (hd : Dg l) (hd' : Dg l') {e e' : Int} :
  run G T 74 [.imm 2 [.bool n,D z l,.int .i64 e,.bool n',D z' l',.int .i64 e']] = some (.bool (mayD n l e && mayD n' l' e')):=by
 rw [Zac G T J.C.Zjn]
 have h2:=Zdl J (n:=n) (z:=z) hd (e:=e)
 have h3:=Zdl J (n:=n') (z:=z') hd' (e:=e')
 simp only [A3] at *
 cases hm : mayD n l e <;> cases hm' : mayD n' l' e' <;> (
  rw [hm] at h2
  rw [hm'] at h3
  repeat' (first|simp (maxSteps:=9^7) only [seval,exC,Zib,h2,h3,Zwy,Zhj,iad20,iad21,ZDA]|simp (maxSteps:=9^7) (disch:=first|with_reducible assumption|omega) only [dxB]|(simp only [kdB];split)|(simp only [kvB];split))
  all_goals rfl)
theorem Zpz (J : Al G T g) {z y : Bool} {a b : Dy} {k S : Nat} (da : mayD a.n (dl a.m) a.e = true) (db : mayD b.n (dl b.m) b.e = true)
  (ha : a.m≠0) (hb : b.m≠0) (hk : 1≤k∧k≤8192) (hw : quoN k a.m b.m + blen a.m≤131072) (ea : -4000000 < a.e∧a.e < 4000000) (eb : -4000000 < b.e∧b.e < 4000000)
  (hS : blen (a.m * 2 ^ quoN k a.m b.m / b.m) = k + S) :
  ∃ z',run G T 40 [DyA z a,DyA y b,.int .i64 (k : Int)] = some (.tup [DyA z' (mkD (a.n != b.n) (a.m * 2 ^ quoN k a.m b.m / b.m / 2 ^ S) (a.e - b.e - (quoN k a.m b.m : Nat) + S)),
   .bool (!decide (a.m * 2 ^ quoN k a.m b.m / b.m % 2 ^ S = 0) || !decide (a.m * 2 ^ quoN k a.m b.m % b.m = 0)),.int .i64 0]):=by
 have hqb:=ZlF (k:=k) ha hb
 have ma:=(ZcN da).1
 have mb:=(ZcN db).1
 obtain ⟨n,m,e⟩:=a
 obtain ⟨n',m',e'⟩:=b
 simp only at *
 have b0:=Zjn J (n:=n) (z:=z) (n':=n') (z':=y) (ZaC m) (ZaC m') (e:=e) (e':=e')
 rw [da,db,Bool.and_self] at b0
 have a0:=Zkh J hk
 have l1:=Zgu J (z:=z) ma
 have l2:=Zgu J (z:=y) mb
 have bm:=Zee ma
 have bm':=Zee mb
 have hN2 : quoN k m m' = k + 1 + blen m' - blen m:=rfl
 generalize quoN k m m' = N at *
 obtain ⟨z1,h1⟩:=ZdD J (z:=z) (a:=m) (n:=N) ma (Or.inr hw) (by omega)
 have bN:=Zap ha N
 have mN : mayL (dl (m * 2 ^ N)) = true:=Zau (by omega)
 obtain ⟨z2,z3,h2⟩:=ZeA J (z:=z1) (y:=y) (a:=m * 2 ^ N) (b:=m') mN mb hb
 have bq:=ZaF (Nat.div_le_self (m * 2 ^ N) m')
 have mq : mayL (dl (m * 2 ^ N / m')) = true:=Zau (by omega)
 have hrl : decide ((0 : Int) < ((dl (m * 2 ^ N % m')).length : Int)) = !decide (m * 2 ^ N % m' = 0):=by
  rw [← decide_not]; refine decide_eq_decide.2 ?_
  rw [← Zaz]; omega
 generalize m * 2 ^ N / m' = Q at *
 generalize m * 2 ^ N % m' = R at *
 obtain ⟨z5,h4⟩:=Zlm J (n:=n != n') (z:=z2) (more:=!decide (R = 0)) (q:=Q) (k:=k) (s:=S) (e:=e - e' - N) mq hS (by omega) (by omega)
 have c1 : ¬ ((dl m).length : Int) = 0:=fun hc => ha (Zaz.1 (by omega))
 have c2 : ¬ ((dl m').length : Int) = 0:=fun hc => hb (Zaz.1 (by omega))
 refine ⟨z5,?_⟩
 have hne : (n != n') = !decide (n = n'):=by cases n <;> cases n' <;> rfl
 rw [hne] at h4 ⊢
 rw [Zac G T J.C.Zpz]
 simp only [DyA,A3] at *
 have c3 : ¬ (k : Int) < 1:=by omega
 have wa : IntKind.i64.wrap ((k : Int) + 1) = (k : Int) + 1:=Zad (by omega)
 have wb : IntKind.i64.wrap ((k : Int) + 1 + (blen m' : Int)) = (k : Int) + 1 + (blen m' : Int):=Zad (by omega)
 have wc : IntKind.i64.wrap ((k : Int) + 1 + (blen m' : Int) - (blen m : Int)) = (k : Int) + 1 + (blen m' : Int) - (blen m : Int):=Zad (by omega)
 have wd : IntKind.i64.wrap (e - e') = e - e':=Zad (by omega)
 have we : IntKind.i64.wrap (e - e' - (N : Int)) = e - e' - N:=Zad (by omega)
 have wm : max (0 : Int) ((k : Int) + 1 + (blen m' : Int) - (blen m : Int)) = N:=by omega
 have wf : IntKind.i64.wrap (131072 - (blen m : Int)) = 131072 - (blen m : Int):=Zad (by omega)
 have c4 : ¬ (131072 - (blen m : Int) < (N : Int)):=by omega
 clear bN mN bq mq hqb hS hN2 da db ma mb hw
 generalize decide (Q % 2 ^ S = 0) = o at *
 cases o <;> (repeat' (first|simp (maxSteps:=9^7) only [seval,exC,ZjZ,b0,a0,c1,c2,c3,c4,l1,l2,wa,wb,wc,wd,we,wf,wm,Zju,h1,h2,h4,hrl]|simp (maxSteps:=9^7) (disch:=first|with_reducible assumption|omega) only [dxB]|(simp only [kdB];split)|(simp only [kvB];split)); try rfl)
end Go.Cv
