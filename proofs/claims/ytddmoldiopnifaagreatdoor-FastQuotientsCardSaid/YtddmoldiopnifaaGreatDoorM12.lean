/-
 A part of the proof of the statements of this seat (texts that the law's own text leans on): no condition.
-/
import Derived.Test.YtddmoldiopnifaaGreatDoorM11
set_option linter.unusedVariables false
set_option linter.unusedSimpArgs false
namespace Go.Cv
theorem q_lt {X V D T P g : Nat} (hV : D * P≤V) (hX : X < (T + 1) * P) (hg : T < g * D) : X / V < g:=by
 apply Nat.div_lt_of_lt_mul
 calc X < (T + 1) * P:=hX
  _≤(g * D) * P:=Nat.mul_le_mul_right _ hg
  _ = g * (D * P):=Nat.mul_assoc ..
  _≤g * V:=Nat.mul_le_mul_left _ hV
  _ = V * g:=Nat.mul_comm ..
theorem q_ge {X V D T P g : Nat} (h0 : 0 < V) (hV : V≤(D + 1) * P) (hX : T * P≤X) (hg : g * D≤T) (hD : g≤D + 1) : g≤X / V + 1:=by
 rcases Nat.eq_zero_or_pos g with rfl | hp
 ·exact Nat.zero_le _
 ·obtain ⟨k,rfl⟩ : ∃ k,g = k + 1:=⟨g - 1,by omega⟩
  have : k≤X / V:=by
   rw [Nat.le_div_iff_mul_le h0]
   calc k * V≤k * ((D + 1) * P):=Nat.mul_le_mul_left _ hV
    _ = (k * D + k) * P:=by rw [← Nat.mul_assoc,Nat.mul_add,Nat.mul_one]
    _≤((k + 1) * D) * P:=Nat.mul_le_mul_right _ (by rw [Nat.add_mul]; omega)
    _≤T * P:=Nat.mul_le_mul_right _ hg
    _≤X:=hX
  omega
theorem Zxw {X V v1 v2 t u P g l : Nat} (h0 : 0 < V) (hV : (v1 * 4294967296 + v2) * P≤V) (hV2 : V≤(v1 * 4294967296 + v2 + 1) * P) (hX1 : (t * 4294967296 + u) * P≤X)
  (hv1 : 1≤v1) (hv2 : v2 < 4294967296) (hgl : g * v1 + l = t) (ht : t < v1 * 4294967296 + 4294967296) (hq : X / V≤g)
  (h : (g < 4294967296∧g * v2≤l * 4294967296 + u)∨4294967296≤l) : g < 4294967296∧X / V≤g∧g≤X / V + 1:=by
 have hg : g < 4294967296:=by
  rcases h with h | h
  ·exact h.1
  ·apply Classical.byContradiction; intro hc
   have : 4294967296 * v1≤g * v1:=Nat.mul_le_mul_right _ (by omega)
   omega
 refine ⟨hg,hq,q_ge h0 hV2 hX1 ?_ ?_⟩
 ·have e : g * (v1 * 4294967296 + v2) = g * v1 * 4294967296 + g * v2:=by rw [Nat.mul_add,Nat.mul_assoc]
  rw [e,← hgl]
  rcases h with h | h
  ·have:=h.2; omega
  ·have : g * v2≤4294967295 * 4294967295:=Nat.mul_le_mul (by omega) (by omega)
   omega
 ·omega
theorem ZqY {X V b g : Nat} (h : X < b * V) (hg : b≤g) : X / V < g:=by
 have h2 : X < V * b:=by rw [Nat.mul_comm]; exact h
 exact Nat.lt_of_lt_of_le (Nat.div_lt_of_lt_mul h2) hg
theorem ZvI {X V v1 v2 t u P g l : Nat} (hV : (v1 * 4294967296 + v2) * P≤V) (hX2 : X < (t * 4294967296 + u + 1) * P) (hXV : X < 4294967296 * V)
  (hgl : g * v1 + l = t) (h : 4294967296≤g∨l * 4294967296 + u < g * v2) : X / V < g:=by
 rcases h with h | h
 ·exact ZqY hXV h
 ·refine q_lt hV hX2 ?_
  have e : g * (v1 * 4294967296 + v2) = g * v1 * 4294967296 + g * v2:=by rw [Nat.mul_add,Nat.mul_assoc]
  rw [e,← hgl,Nat.add_mul,Nat.add_assoc]
  exact Nat.add_lt_add_left h _
theorem Zsr {X V v1 t P Q g l : Nat} (hV : v1 * Q≤V) (hX2 : X < (t + 1) * Q) (hv1 : 0 < v1) : X / V≤t / v1:=by
 have h1 : X / V < t / v1 + 1:=by
  refine q_lt hV hX2 ?_
  have h2:=Nat.div_add_mod t v1
  have h3:=Nat.mod_lt t hv1
  rw [Nat.add_mul,Nat.one_mul,Nat.mul_comm (t / v1)]; omega
 omega
theorem ZyW {A A' g V d c c' w z i x y n b : Nat} (hA : A' + 4294967296 ^ i * x = A + 4294967296 ^ i * n) (he : A + g * V = b + 4294967296 ^ i * (c + w)) (hd : n + y + w = x + 4294967296 * z) (hc : c + g * d = y + 4294967296 * c') :
  A' + g * (V + 4294967296 ^ i * d) = b + 4294967296 ^ (i + 1) * (c' + z):=by
 have e1 : g * (V + 4294967296 ^ i * d) = g * V + 4294967296 ^ i * (g * d):=by rw [Nat.mul_add,Nat.mul_left_comm]
 rw [e1,Nat.pow_succ,Nat.mul_assoc]
 generalize 4294967296 ^ i = p at *
 generalize g * d = m at *
 generalize g * V = gv at *
 have h1 : p * n + p * y + p * w = p * x + p * (4294967296 * z):=by rw [← Nat.mul_add,← Nat.mul_add,hd,Nat.mul_add]
 have h2 : p * c + p * m = p * y + p * (4294967296 * c'):=by rw [← Nat.mul_add,hc,Nat.mul_add]
 rw [Nat.mul_add] at he
 rw [Nat.mul_add,Nat.mul_add]
 omega
theorem Zwp {A A' V d w z i x n b : Nat} (hA : A' + 4294967296 ^ i * x = A + 4294967296 ^ i * n) (he : A + 4294967296 ^ i * w = b + V) (hd : n + 4294967296 * z = x + d + w) :
  A' + 4294967296 ^ (i + 1) * z = b + (V + 4294967296 ^ i * d):=by
 rw [Nat.pow_succ,Nat.mul_assoc]
 generalize 4294967296 ^ i = p at *
 have h1 : p * n + p * (4294967296 * z) = p * x + p * d + p * w:=by rw [← Nat.mul_add,hd,Nat.mul_add,Nat.mul_add]
 omega
end Go.Cv
namespace Go.Cv
variable {G : Nat→Option (List AV)} {T : Tbl} {g : Nat}
theorem ZAx (x : Int) : evUn .xor (.int .u32 x) = some (.int .u32 (xorI .u32 4294967295 x)):=by rw [ZqO]; rfl
theorem xor32 {a b : Nat} (ha : a < 4294967296) (hb : b < 4294967296) : xorI .u32 (a : Int) (b : Int) = ((a ^^^ b : Nat) : Int):=by
 have : a ^^^ b < 2 ^ 32:=Nat.xor_lt_two_pow (n:=32) ha hb
 rw [ZqO]
 show IntKind.u32.wrap ((BitVec.ofInt 32 a ^^^ BitVec.ofInt 32 b).toNat : Int) = _
 rw [show BitVec.ofInt 32 (a : Int) = BitVec.ofNat 32 a from rfl,show BitVec.ofInt 32 (b : Int) = BitVec.ofNat 32 b from rfl,BitVec.toNat_xor,BitVec.toNat_ofNat,BitVec.toNat_ofNat,Nat.mod_eq_of_lt (by omega),Nat.mod_eq_of_lt (by omega),ZkS]
 omega
theorem ZDY {n : Nat} (h : n < 4294967296) : n / 2147483648 = (n.testBit 31).toNat:=by
 rw [Nat.testBit_eq_decide_div_mod_eq,show (2 : Nat) ^ 31 = 2147483648 from rfl]
 by_cases h2 : n / 2147483648 % 2 = 1
 ·rw [decide_eq_true h2]; simp only [Bool.toNat_true]; omega
 ·rw [decide_eq_false h2]; simp only [Bool.toNat_false]; omega
theorem Zvv {x y d w z : Nat} (hx : x < 4294967296) (hy : y < 4294967296) (hd : d < 4294967296) (hw : w≤1) (hz : z≤1) (h : d + y + w = x + 4294967296 * z) :
  (((4294967295 ^^^ x) &&& y) ||| ((4294967295 ^^^ (x ^^^ y)) &&& d)) / 2147483648 = z:=by
 have l1 : ((4294967295 ^^^ x) &&& y) ||| ((4294967295 ^^^ (x ^^^ y)) &&& d) < 4294967296 :=
  Nat.or_lt_two_pow (n:=32) (Nat.and_lt_two_pow _ hy) (Nat.and_lt_two_pow _ hd)
 rw [ZDY l1]
 have t1 : Nat.testBit 4294967295 31 = true:=by decide
 simp only [Nat.testBit_or,Nat.testBit_and,Nat.testBit_xor,t1]
 have e : ∀ n,n < 4294967296→n.testBit 31 = decide (2147483648≤n):=fun n hn => by
  rw [Nat.testBit_eq_decide_div_mod_eq,show (2 : Nat) ^ 31 = 2147483648 from rfl]
  by_cases h2 : 2147483648≤n
  ·rw [decide_eq_true h2]; simp only [decide_eq_true_eq]; omega
  ·rw [decide_eq_false h2]; simp only [decide_eq_false_iff_not]; omega
 rw [e x hx,e y hy,e d hd]
 by_cases a : 2147483648≤x <;> by_cases b : 2147483648≤y <;> by_cases c : 2147483648≤d <;> simp [a,b,c] <;> omega
theorem ZhS (J : Al G T g) {x y w d z : Nat} (hx : x < 4294967296) (hy : y < 4294967296) (hw : w≤1) (hd : d < 4294967296) (hz : z≤1) (h : d + y + w = x + 4294967296 * z) :
  run G T 121 [.int .u32 (x : Int),.int .u32 (y : Int),.int .u32 (w : Int)] = some (.tup [.int .u32 (d : Int),.int .u32 (z : Int)]):=by
 rw [Zab G T J.A.ZhS]
 have w1 : ((x : Int) - y) % 4294967296 = ((x : Int) - y) % 4294967296:=rfl
 have w2 : (((x : Int) - y) % 4294967296 - w) % 4294967296 = (d : Int):=by omega
 have n1 : (4294967295 ^^^ x) < 4294967296:=Nat.xor_lt_two_pow (n:=32) (by decide) hx
 have n2 : (x ^^^ y) < 4294967296:=Nat.xor_lt_two_pow (n:=32) hx hy
 have n3 : (4294967295 ^^^ (x ^^^ y)) < 4294967296:=Nat.xor_lt_two_pow (n:=32) (by decide) n2
 have x1:=xor32 (a:=4294967295) (b:=x) (by decide) hx
 have x2:=xor32 hx hy
 have x3:=xor32 (a:=4294967295) (b:=x ^^^ y) (by decide) n2
 rw [show ((4294967295 : Nat) : Int) = 4294967295 from rfl] at x1 x3
 have a1:=and32 n1 hy
 have a2:=and32 n3 hd
 have l1:=Nat.and_lt_two_pow (n:=32) (4294967295 ^^^ x) hy
 have l2:=Nat.and_lt_two_pow (n:=32) (4294967295 ^^^ (x ^^^ y)) hd
 have o1:=or32 l1 l2
 have b1:=Zvv hx hy hd hw hz h
 have b2 : (((((4294967295 ^^^ x) &&& y) ||| ((4294967295 ^^^ (x ^^^ y)) &&& d)) : Nat) : Int) / 2147483648 = (z : Int):=by
  rw [← b1]; rfl
 repeat (first | (simp (maxSteps:=9^7) only [seval,evB,ZgP,ZAx,w2,x1,x2,x3,a1,a2,o1,b2]) | (simp (disch:=omega) only [dsB]))
theorem Zkp (J : Al G T g) {x y w d z : Nat} (hx : x < 4294967296) (hy : y < 4294967296) (hw : w≤1) (hd : d < 4294967296) (hz : z≤1) (h : d + 4294967296 * z = x + y + w) :
  run G T 112 [.int .u32 (x : Int),.int .u32 (y : Int),.int .u32 (w : Int)] = some (.tup [.int .u32 (d : Int),.int .u32 (z : Int)]):=by
 rw [Zab G T J.A.Zkp]
 have w1 : (x : Int) % 18446744073709551616 = x:=by omega
 have w2 : (y : Int) % 18446744073709551616 = y:=by omega
 have w3 : (w : Int) % 18446744073709551616 = w:=by omega
 have w4 : ((x : Int) + y) % 18446744073709551616 = (x : Int) + y:=by omega
 have w5 : ((x : Int) + y + w) % 18446744073709551616 = (x : Int) + y + w:=by omega
 have w6 : ((x : Int) + y + w) % 4294967296 = d:=by omega
 have w7 : ((x : Int) + y + w) / 4294967296 = z:=by omega
 have w8 : (z : Int) % 4294967296 = z:=by omega
 repeat (first | (simp (maxSteps:=9^7) only [seval,evB,ZgN,w1,w2,w3,w4,w5,w6,w7,w8]) | (simp (disch:=omega) only [dsB]))
theorem ZCO (J : Al G T g) {x : Nat} (hx : x < 4294967296) : run G T 119 [.int .u32 (x : Int)] = some (.int .i64 ((32 - blen x : Nat) : Int)):=by
 rw [Zab G T J.A.bits_LeadingZeros32]
 have h1:=Zkq (G:=G) J hx
 have hb : blen x≤32:=Zae.2 hx
 have w1 : (32 : Int) - (blen x : Nat) = ((32 - blen x : Nat) : Int):=by omega
 repeat (first | (simp (maxSteps:=9^7) only [seval,evB,ZbC,h1,w1]) | (simp (disch:=omega) only [dsB]))
theorem Zew {b off n : Nat} {k : IntKind} {j : Int} (hj : 0≤j∧j < n) : iaddrV 1 (.own b off n 1) (.int k j) = some (.ptr b (off + j.toNat)):=by
 rw [iaddrV,if_pos ⟨hj.1,hj.2,rfl⟩,Nat.mul_one]
theorem ZEN {A W C : List Nat} {i : Nat} (hi : i < W.length) : dg (A ++ W ++ C) (A.length + i) = dg W i:=by
 rw [ZfG (by simp only [List.length_append]; omega),ZfG hi,List.getElem_append_left (by simp only [List.length_append]; omega),List.getElem_append_right (by omega)]
 congr 1; omega
theorem ZDa {V C : List Nat} {i : Nat} (hi : i < V.length) : dg (V ++ C) i = dg V i:=by
 rw [ZfG (by simp only [List.length_append]; omega),ZfG hi,List.getElem_append_left hi]
theorem ZDQ {A W C : List Nat} {i x : Nat} (hi : i < W.length) : (A ++ W ++ C).set (A.length + i) x = A ++ W.set i x ++ C:=by
 rw [List.set_append_left _ _ (by simp only [List.length_append]; omega),List.set_append_right _ _ (by omega),Nat.add_sub_cancel_left]
theorem Zog {h : Heap} {b : Nat} {A W C : List Nat} (H : Holds h b (A ++ W ++ C)) {i : Nat} (hi : i < W.length) : rdAt G h.mem 1 (.ptr b (A.length + i)) = some [.int .u32 (dg W i)]:=by
 rw [Zht (G:=G) H (by simp only [List.length_append]; omega),ZEN hi]
theorem Zrl {h : Heap} {b : Nat} {V C : List Nat} (H : Holds h b (V ++ C)) {i : Nat} (hi : i < V.length) : rdAt G h.mem 1 (.ptr b i) = some [.int .u32 (dg V i)]:=by
 rw [Zht (G:=G) H (by simp only [List.length_append]; omega),ZDa hi]
theorem ZqF {h : Heap} {b : Nat} {A W C : List Nat} (H : Holds h b (A ++ W ++ C)) {i x : Nat} (hi : i < W.length) :
  storeV h 1 (.ptr b (A.length + i)) (.int .u32 (x : Int)) = some (.tup [],put h b (A ++ W.set i x ++ C)):=by
 rw [ZcE H (by simp only [List.length_append]; omega),ZDQ hi]
theorem ZvU {h : Heap} {bu bv n : Nat} {A W C V V2 : List Nat} {X Y P v1 v2 t u : Nat} (HU : Holds h bu (A ++ W ++ C)) (HV : Holds h bv (V ++ V2)) (hW : W.length = n + 1) (hV : V.length = n) (hn : 2≤n) (hs : n < 549755813888)
  (dV : Dg V) (dW : Dg W) (e1 : dg V (n - 1) = v1) (e2 : dg V (n - 2) = v2) (e3 : dg W (n - 2) = u) (h0 : 0 < Y) (hV1 : (v1 * 4294967296 + v2) * P≤Y) (hV2 : Y≤(v1 * 4294967296 + v2 + 1) * P) (hX1 : (t * 4294967296 + u) * P≤X)
  (hX2 : X < (t * 4294967296 + u + 1) * P) (hXV : X < 4294967296 * Y) (hv1 : 1≤v1) (ht : t < v1 * 4294967296 + 4294967296) (htb : t < 18446744073709551616) : ∀ (g l : Nat),
  l < 4294967296→g * v1 + l = t→X / Y≤g →
  Post (evL G T ZbE [(0,.own bu A.length (n + 1) 1),(1,.own bv 0 n 1),(5,.int .i64 (n : Int)),(7,.int .u64 (g : Int)),(8,.int .u64 (l : Int))] h) fun r =>
   ∃ e g',r = (.exit 0,(0,.own bu A.length (n + 1) 1) :: (1,.own bv 0 n 1) :: (5,.int .i64 (n : Int)) :: (7,.int .u64 ((g' : Nat) : Int)) :: e,h)∧g' < 4294967296∧X / Y≤g'∧g'≤X / Y + 1:=by
 intro g
 induction g using Nat.strongRecOn with
 | ind g ih =>
  intro l hl hgl hq
  have hv2 : v2 < 4294967296:=e2 ▸ dV.dg _
  have hu : u < 4294967296:=e3 ▸ dW.dg _
  have hv1' : v1 < 4294967296:=e1 ▸ dV.dg _
  have hend:=fun g l => Zxw (X:=X) (V:=Y) (t:=t) (u:=u) (P:=P) (g:=g) (l:=l) h0 hV1 hV2 hX1 hv1 hv2
  have hdn:=ZvI (g:=g) (l:=l) hV1 hX2 hXV hgl
  have hgt : g≤t:=Nat.le_trans (Nat.le_mul_of_pos_right g hv1) (by omega)
  have hstep : 1≤g→(g - 1) * v1 + (l + v1) = t:=fun hg => by
   obtain ⟨k,rfl⟩ : ∃ k,g = k + 1:=⟨g - 1,by omega⟩
   rw [Nat.add_mul] at hgl; simp only [Nat.add_sub_cancel]; omega
  clear hX1 hX2 hXV hV1 hV2
  generalize X / Y = q at *
  rw [Zad G T (c:=ZbE) rfl]
  have i1 : (n : Int) - 1 = ((n - 1 : Nat) : Int):=by omega
  have i2 : (n : Int) - 2 = ((n - 2 : Nat) : Int):=by omega
  have l1:=Zrl (G:=G) HV (i:=n - 1) (by omega)
  have l2:=Zrl (G:=G) HV (i:=n - 2) (by omega)
  have l3:=Zog (G:=G) HU (i:=n - 2) (by omega)
  rw [e1] at l1
  rw [e2] at l2
  rw [e3] at l3
  have wv1 : (v1 : Int) % 18446744073709551616 = v1:=by omega
  have wv2 : (v2 : Int) % 18446744073709551616 = v2:=by omega
  have wu : (u : Int) % 18446744073709551616 = u:=by omega
  have wl : ((l : Int) + v1) % 18446744073709551616 = ((l + v1 : Nat) : Int):=by omega
  have wo:=Znt (r:=l) (x:=u) hl hu
  have wg : 1≤g→((g : Int) - 1) % 18446744073709551616 = ((g - 1 : Nat) : Int):=fun hg => by omega
  have fin : (hg : q < g)→Post (if (4294967296 : Int)≤((l + v1 : Nat) : Int) then some ((.exit 0,[(0,.own bu A.length (n + 1) 1),(1,.own bv 0 n 1),(5,.int .i64 (n : Int)),(7,.int .u64 ((g - 1 : Nat) : Int)),(8,.int .u64 ((l + v1 : Nat) : Int)),(80,.bool true)],h) : Ex × Env × Heap)
    else evL G T ZbE [(0,.own bu A.length (n + 1) 1),(1,.own bv 0 n 1),(5,.int .i64 (n : Int)),(7,.int .u64 ((g - 1 : Nat) : Int)),(8,.int .u64 ((l + v1 : Nat) : Int)),(80,.bool false)] h) fun r =>
   ∃ e g',r = (.exit 0,(0,.own bu A.length (n + 1) 1) :: (1,.own bv 0 n 1) :: (5,.int .i64 (n : Int)) :: (7,.int .u64 ((g' : Nat) : Int)) :: e,h)∧g' < 4294967296∧q≤g'∧g'≤q + 1:=by
   intro hg
   by_cases c2 : 4294967296≤l + v1
   ·rw [if_pos (by omega)]
    exact Post.some ⟨_,_,rfl,hend _ _ (hstep (by omega)) ht (by omega) (Or.inr c2)⟩
   ·rw [if_neg (by omega),show evL G T ZbE [(0,.own bu A.length (n + 1) 1),(1,.own bv 0 n 1),(5,.int .i64 (n : Int)),(7,.int .u64 ((g - 1 : Nat) : Int)),(8,.int .u64 ((l + v1 : Nat) : Int)),(80,.bool false)] h = evL G T ZbE [(0,.own bu A.length (n + 1) 1),(1,.own bv 0 n 1),(5,.int .i64 (n : Int)),(7,.int .u64 ((g - 1 : Nat) : Int)),(8,.int .u64 ((l + v1 : Nat) : Int))] h by
     rw [Zad G T (c:=ZbE) rfl,Zad G T (c:=ZbE) rfl]; rfl]
    exact ih (g - 1) (by omega) (l + v1) (by omega) (hstep (by omega)) (by omega)
  by_cases c1 : 4294967296≤g
  ·have hg:=hdn (Or.inl c1)
   have c1' : (4294967296 : Int)≤(g : Int):=by omega
   have wg:=wg (by omega)
   have fin:=fin hg
   clear hend hdn ih hstep
   by_cases c2 : (4294967296 : Int)≤((l + v1 : Nat) : Int)
   ·rw [if_pos c2] at fin
    repeat (first | (simp (maxSteps:=9^7) only [seval,evB,ZcM,c1',c2,wg,wl,wv1,i1,l1 ]) | (simp (disch:=omega) only [dsB,Zew]))
    exact fin
   ·rw [if_neg c2] at fin
    repeat (first | (simp (maxSteps:=9^7) only [seval,evB,ZcM,c1',c2,wg,wl,wv1,i1,l1 ]) | (simp (disch:=omega) only [dsB,Zew]))
    exact fin
  ·have c1' : ¬ (4294967296 : Int)≤(g : Int):=by omega
   have hp : g * v2≤4294967295 * 4294967295:=Nat.mul_le_mul (by omega) (by omega)
   have wp : (g : Int) * (v2 : Int) = ((g * v2 : Nat) : Int):=by rw [Int.natCast_mul]
   have wp2 : ((g * v2 : Nat) : Int) % 18446744073709551616 = ((g * v2 : Nat) : Int):=by omega
   by_cases c3 : l * 4294967296 + u < g * v2
   ·have hg:=hdn (Or.inr c3)
    have wg:=wg (by omega)
    have fin:=fin hg
    have c3' : ((l * 4294967296 + u : Nat) : Int) < ((g * v2 : Nat) : Int):=by omega
    clear hend hdn ih hstep
    by_cases c2 : (4294967296 : Int)≤((l + v1 : Nat) : Int)
    ·rw [if_pos c2] at fin
     repeat (first | (simp (maxSteps:=9^7) only [seval,evB,ZcM,c1',c2,c3',wp,wp2,wo,wu,wv2,wg,wl,wv1,i1,i2,l1,l2,l3 ]) | (simp (disch:=omega) only [dsB,Zew]))
     exact fin
    ·rw [if_neg c2] at fin
     repeat (first | (simp (maxSteps:=9^7) only [seval,evB,ZcM,c1',c2,c3',wp,wp2,wo,wu,wv2,wg,wl,wv1,i1,i2,l1,l2,l3 ]) | (simp (disch:=omega) only [dsB,Zew]))
     exact fin
   ·have c3' : ¬ ((l * 4294967296 + u : Nat) : Int) < ((g * v2 : Nat) : Int):=by omega
    have fin:=hend g l hgl ht hq (Or.inl ⟨by omega,by omega⟩)
    clear hend hdn ih hstep
    repeat (first | (simp (maxSteps:=9^7) only [seval,evB,ZcM,c1',c3',wp,wp2,wo,wu,wv2,i1,i2,l2,l3 ]) | (simp (disch:=omega) only [dsB,Zew]))
    exact Post.some ⟨_,_,rfl,fin⟩
theorem ZyS {x y w : Nat} (hx : x < 4294967296) (hy : y < 4294967296) (hw : w≤1) : ∃ d z,d < 4294967296∧z≤1∧d + y + w = x + 4294967296 * z:=by
 by_cases h : y + w≤x
 ·exact ⟨x - y - w,0,by omega,by omega,by omega⟩
 ·exact ⟨x + 4294967296 - y - w,1,by omega,by omega,by omega⟩
theorem ZCK {x y w : Nat} (hx : x < 4294967296) (hy : y < 4294967296) (hw : w≤1) : ∃ d z,d < 4294967296∧z≤1∧d + 4294967296 * z = x + y + w :=
 ⟨(x + y + w) % 4294967296,(x + y + w) / 4294967296,by omega,by omega,by omega⟩
theorem ZrR (J : Al G T g) {h : Heap} {bu bv n q : Nat} {A C V V2 W0 : List Nat} (HU : Holds h bu (A ++ W0 ++ C)) (HV : Holds h bv (V ++ V2)) (hne : bv≠bu) (hV : V.length = n) (hs : n < 549755813888)
  (dV : Dg V) (hq : q < 4294967296) : ∀ (m i : Nat) (W : List Nat) (c w : Nat),m + i = n→W.length = n + 1→Dg W→c < 4294967296→w≤1→val W + q * val (V.take i) = val W0 + 4294967296 ^ i * (c + w) →
  Post (evL G T ZfS [(0,.own bu A.length (n + 1) 1),(1,.own bv 0 n 1),(5,.int .i64 (n : Int)),(7,.int .u64 (q : Int)),(9,.int .u32 (w : Int)),(10,.int .u64 (c : Int)),(81,.own bv 0 n 1),(82,.int .i64 (n : Int)),(83,.int .i64 (i : Int))] (put h bu (A ++ W ++ C))) fun r =>
   ∃ e W' c' w',r = (.exit 2,(0,.own bu A.length (n + 1) 1) :: (1,.own bv 0 n 1) :: (5,.int .i64 (n : Int)) :: (7,.int .u64 (q : Int)) :: (9,.int .u32 ((w' : Nat) : Int)) :: (10,.int .u64 ((c' : Nat) : Int)) :: e,put h bu (A ++ W' ++ C)) ∧
    W'.length = n + 1∧Dg W'∧c' < 4294967296∧w'≤1∧val W' + q * val V = val W0 + 4294967296 ^ n * (c' + w')
 | 0,i,W,c,w,hm,hW,dW,hc,hw,he => by
  rw [Zad G T (c:=ZfS) rfl]
  have h1 : ¬ (i : Int) < (n : Int):=by omega
  repeat (first | (simp (maxSteps:=9^7) only [seval,evB,ZiG,h1]) | (simp (disch:=omega) only [dsB]))
  obtain rfl : i = n:=by omega
  rw [List.take_of_length_le (by omega)] at he
  exact Post.some ⟨_,_,_,_,rfl,hW,dW,hc,hw,he⟩
 | m + 1,i,W,c,w,hm,hW,dW,hc,hw,he => by
  rw [Zad G T (c:=ZfS) rfl]
  have h1 : (i : Int) < (n : Int):=by omega
  have e7 : (i : Int) + 1 = ((i + 1 : Nat) : Int):=by omega
  have hd:=dV.dg i
  have hx:=dW.dg i
  have HU':=HU.put (A ++ W ++ C)
  have HV':=HV.other (l:=A ++ W ++ C) hne
  have l1:=Zrl (G:=G) HV' (i:=i) (by omega)
  have l2:=Zog (G:=G) HU' (i:=i) (by omega)
  have w1 : (dg V i : Int) % 18446744073709551616 = dg V i:=by omega
  have hp : q * dg V i≤4294967295 * 4294967295:=Nat.mul_le_mul (by omega) (by omega)
  have w2 : (q : Int) * (dg V i : Int) = ((q * dg V i : Nat) : Int):=by rw [Int.natCast_mul]
  have hv:=Zac (l:=V) (i:=i)
  generalize hpp : q * dg V i = p at *
  have w3 : (p : Int) % 18446744073709551616 = p:=by omega
  have w4 : ((c : Int) + (p : Int)) % 18446744073709551616 = ((c + p : Nat) : Int):=by omega
  have w5 : ((c + p : Nat) : Int) % 4294967296 = (((c + p) % 4294967296 : Nat) : Int):=by omega
  have w6 : ((c + p : Nat) : Int) / 4294967296 = (((c + p) / 4294967296 : Nat) : Int):=by omega
  have hy : (c + p) % 4294967296 < 4294967296:=Nat.mod_lt _ (by decide)
  have hc2 : (c + p) / 4294967296 < 4294967296:=by omega
  have hcp : c + p = (c + p) % 4294967296 + 4294967296 * ((c + p) / 4294967296):=by omega
  generalize (c + p) % 4294967296 = y at *
  generalize (c + p) / 4294967296 = c2 at *
  obtain ⟨d,z,hd1,hz,hdz⟩:=ZyS hx hy hw
  have call:=ZhS (G:=G) J hx hy hw hd1 hz hdz
  have st:=ZqF HU' (i:=i) (x:=d) (by omega)
  rw [Zlk] at st
  repeat (first | (simp (maxSteps:=9^7) only [seval,evB,ZiG,h1,e7,w1,w2,w3,w4,w5,w6,l1,l2,call,st ]) | (simp (disch:=omega) only [dsB,Zew]))
  refine ZrR J HU HV hne hV hs dV hq m (i + 1) _ _ _ (by omega) (by rw [List.length_set]; exact hW) (ZdO dW hd1) hc2 hz ?_
  rw [hv]
  exact ZyW (Zlq d (by omega)) he hdz (by rw [hpp]; exact hcp)
theorem ZrQ (J : Al G T g) {h : Heap} {bu bv n q : Nat} {A C V V2 W0 : List Nat} (HU : Holds h bu (A ++ W0 ++ C)) (HV : Holds h bv (V ++ V2)) (hne : bv≠bu) (hV : V.length = n) (hs : n < 549755813888)
  (dV : Dg V) : ∀ (m i : Nat) (W : List Nat) (w : Nat),m + i = n→W.length = n + 1→Dg W→w≤1→val W + 4294967296 ^ i * w = val W0 + val (V.take i)→dg W n = dg W0 n →
  Post (evL G T ZfR [(0,.own bu A.length (n + 1) 1),(5,.int .i64 (n : Int)),(7,.int .u64 (q : Int)),(13,.int .u32 (w : Int)),(129,.own bv 0 n 1),(130,.int .i64 (n : Int)),(131,.int .i64 (i : Int))] (put h bu (A ++ W ++ C))) fun r =>
   ∃ e W' w',r = (.exit 4,(0,.own bu A.length (n + 1) 1) :: (5,.int .i64 (n : Int)) :: (7,.int .u64 (q : Int)) :: (13,.int .u32 ((w' : Nat) : Int)) :: e,put h bu (A ++ W' ++ C)) ∧
    W'.length = n + 1∧Dg W'∧w'≤1∧val W' + 4294967296 ^ n * w' = val W0 + val V∧dg W' n = dg W0 n
 | 0,i,W,w,hm,hW,dW,hw,he,hn => by
  rw [Zad G T (c:=ZfR) rfl]
  have h1 : ¬ (i : Int) < (n : Int):=by omega
  repeat (first | (simp (maxSteps:=9^7) only [seval,evB,ZiF,h1]) | (simp (disch:=omega) only [dsB]))
  obtain rfl : i = n:=by omega
  rw [List.take_of_length_le (by omega)] at he
  exact Post.some ⟨_,_,_,rfl,hW,dW,hw,he,hn⟩
 | m + 1,i,W,w,hm,hW,dW,hw,he,hn => by
  rw [Zad G T (c:=ZfR) rfl]
  have h1 : (i : Int) < (n : Int):=by omega
  have e7 : (i : Int) + 1 = ((i + 1 : Nat) : Int):=by omega
  have hd:=dV.dg i
  have hx:=dW.dg i
  have HU':=HU.put (A ++ W ++ C)
  have HV':=HV.other (l:=A ++ W ++ C) hne
  have l1:=Zrl (G:=G) HV' (i:=i) (by omega)
  have l2:=Zog (G:=G) HU' (i:=i) (by omega)
  obtain ⟨d,z,hd1,hz,hdz⟩:=ZCK hx hd hw
  have call:=Zkp (G:=G) J hx hd hw hd1 hz hdz
  have st:=ZqF HU' (i:=i) (x:=d) (by omega)
  rw [Zlk] at st
  repeat (first | (simp (maxSteps:=9^7) only [seval,evB,ZiF,h1,e7,l1,l2,call,st ]) | (simp (disch:=omega) only [dsB,Zew]))
  refine ZrQ J HU HV hne hV hs dV m (i + 1) _ _ (by omega) (by rw [List.length_set]; exact hW) (ZdO dW hd1) hz ?_ (by rw [ZnJ (by omega)]; exact hn)
  rw [Zac]
  exact Zwp (Zlq d (by omega)) he hdz
theorem ZyO {X Y g w : Nat} (h0 : 0 < Y) (he : w + g * Y = X) (hq : X / Y≤g) : g = X / Y∧w = X % Y:=by
 have h1 : g≤X / Y:=by rw [Nat.le_div_iff_mul_le h0]; omega
 obtain rfl : g = X / Y:=by omega
 have:=Nat.div_add_mod X Y
 rw [Nat.mul_comm] at this
 exact ⟨rfl,by omega⟩
theorem ZyP {X Y g w w4 k B : Nat} (h0 : 0 < Y) (hB : Y≤B) (he : w + g * Y = X + B) (hw : w < B) (hq : g≤X / Y + 1) (h4 : w4 + B * k = w + Y) (hw4 : w4 < B) : g = X / Y + 1∧w4 = X % Y:=by
 have h1 : X / Y < g:=Nat.div_lt_of_lt_mul (by rw [Nat.mul_comm]; omega)
 obtain rfl : g = X / Y + 1:=by omega
 have h2:=Nat.div_add_mod X Y
 have h3:=Nat.mod_lt X h0
 rw [Nat.add_mul,Nat.one_mul,Nat.mul_comm] at he
 refine ⟨rfl,?_⟩
 rcases k with _ | _ | k
 ·rw [Nat.mul_zero] at h4; omega
 ·omega
 ·have : B * (k + 1 + 1) = B * k + B + B:=by rw [Nat.mul_add,Nat.mul_add,Nat.mul_one]
  omega
theorem ZDZ {V : List Nat} {n : Nat} (hV : V.length = n + 2) : val V = val (V.take n) + 4294967296 ^ n * (dg V (n + 1) * 4294967296 + dg V n):=by
 have e1:=Zac (l:=V) (i:=n)
 have e2:=Zac (l:=V) (i:=n + 1)
 rw [List.take_of_length_le (by omega)] at e2
 rw [e2,e1,Nat.pow_succ,Nat.mul_add,Nat.mul_assoc,Nat.mul_comm 4294967296 (dg V (n + 1))]; omega
theorem Zzb {W : List Nat} {n : Nat} (hW : W.length = n + 3) : val W = val (W.take n) + 4294967296 ^ n * ((dg W (n + 2) * 4294967296 + dg W (n + 1)) * 4294967296 + dg W n):=by
 have e1:=Zac (l:=W) (i:=n)
 have e2:=Zac (l:=W) (i:=n + 1)
 have e3:=Zac (l:=W) (i:=n + 2)
 rw [List.take_of_length_le (by omega)] at e3
 rw [e3,e2,e1,Nat.pow_succ (m:=n + 1),Nat.pow_succ (m:=n)]
 generalize 4294967296 ^ n = p
 generalize dg W n = a
 generalize dg W (n + 1) = b
 generalize dg W (n + 2) = c
 have h1 : p * 4294967296 * b = 4294967296 * (p * b):=by rw [Nat.mul_comm p,Nat.mul_assoc]
 have h2 : p * 4294967296 * 4294967296 * c = 4294967296 * 4294967296 * (p * c):=by rw [Nat.mul_assoc p,Nat.mul_comm p,Nat.mul_assoc]
 have h3 : p * ((c * 4294967296 + b) * 4294967296 + a) = 4294967296 * 4294967296 * (p * c) + 4294967296 * (p * b) + p * a:=by
  rw [Nat.mul_add,← Nat.mul_assoc,Nat.mul_add,← Nat.mul_assoc]; omega
 rw [h1,h2,h3]; omega
theorem ZFJ {b t v u2 v2 : Nat} (h : t * b + u2 < b * (v + v2 + 1)) (h2 : v2 < b) : t < v + b:=by
 have h3 : b * t < b * (v + v2 + 1):=by rw [Nat.mul_comm]; exact Nat.lt_of_le_of_lt (Nat.le_add_right _ _) h
 have:=Nat.lt_of_mul_lt_mul_left h3
 omega
structure StepPre (W V : List Nat) (n : Nat) : Prop where
 hn : 2≤n
 hs : n < 17179869184
 hW : W.length = n + 1
 hV : V.length = n
 dW : Dg W
 dV : Dg V
 top : 2147483648≤dg V (n - 1)
 lt : val W < 4294967296 * val V
theorem ZvT {W V : List Nat} {n : Nat} (p : StepPre W V n) : ∃ P,0 < P∧(dg V (n - 1) * 4294967296 + dg V (n - 2)) * P≤val V∧val V≤(dg V (n - 1) * 4294967296 + dg V (n - 2) + 1) * P ∧
  ((dg W n * 4294967296 + dg W (n - 1)) * 4294967296 + dg W (n - 2)) * P≤val W∧val W < ((dg W n * 4294967296 + dg W (n - 1)) * 4294967296 + dg W (n - 2) + 1) * P ∧
  dg W n * 4294967296 + dg W (n - 1) < dg V (n - 1) * 4294967296 + 4294967296∧val W / val V≤(dg W n * 4294967296 + dg W (n - 1)) / dg V (n - 1)∧0 < val V:=by
 obtain ⟨hn,hs,hW,hV,dW,dV,top,lt⟩:=p
 obtain ⟨k,rfl⟩ : ∃ k,n = k + 2:=⟨n - 2,by omega⟩
 have e1:=ZDZ hV
 have e2:=Zzb hW
 have t1:=ZfE (dV.take k)
 have t2:=ZfE (dW.take k)
 rw [List.length_take,Nat.min_eq_left (by omega)] at t1 t2
 simp only [Nat.add_sub_cancel,show k + 2 - 1 = k + 1 from rfl] at *
 have b1:=dV.dg k
 have b2:=dW.dg k
 have b3:=dW.dg (k + 1)
 generalize 4294967296 ^ k = P at *
 generalize val (V.take k) = lo at *
 generalize val (W.take k) = lo2 at *
 generalize dg V (k + 1) = v1 at *
 generalize dg V k = v2 at *
 generalize dg W (k + 2) = u0 at *
 generalize dg W (k + 1) = u1 at *
 generalize dg W k = u2 at *
 rw [Nat.mul_comm] at e1 e2
 have c1 : (v1 * 4294967296 + v2) * P≤val V:=by rw [e1]; exact Nat.le_add_left _ _
 have c2 : val V < (v1 * 4294967296 + v2 + 1) * P:=by rw [e1,Nat.add_mul _ 1,Nat.one_mul]; omega
 have c3 : ((u0 * 4294967296 + u1) * 4294967296 + u2) * P≤val W:=by rw [e2]; exact Nat.le_add_left _ _
 have c4 : val W < ((u0 * 4294967296 + u1) * 4294967296 + u2 + 1) * P:=by rw [e2,Nat.add_mul _ 1,Nat.one_mul]; omega
 have hP : 0 < P:=by omega
 have hY : 0 < val V:=Nat.lt_of_lt_of_le (Nat.mul_pos (by omega) hP) c1
 refine ⟨P,hP,c1,Nat.le_of_lt c2,c3,c4,?_,?_,hY⟩
 ·have h1 : ((u0 * 4294967296 + u1) * 4294967296 + u2) * P < (4294967296 * (v1 * 4294967296 + v2 + 1)) * P:=by
   calc _≤val W:=c3
    _ < 4294967296 * val V:=lt
    _≤4294967296 * ((v1 * 4294967296 + v2 + 1) * P):=Nat.mul_le_mul_left _ (Nat.le_of_lt c2)
    _ = _:=by rw [Nat.mul_assoc]
  exact ZFJ (Nat.lt_of_mul_lt_mul_right h1) b1
 ·refine Zsr (P:=P) (g:=0) (l:=0) (Q:=4294967296 * P) ?_ ?_ (by omega)
  ·refine Nat.le_trans ?_ c1
   rw [← Nat.mul_assoc]; exact Nat.mul_le_mul_right _ (by omega)
  ·refine Nat.lt_of_lt_of_le c4 ?_
   rw [← Nat.mul_assoc]; exact Nat.mul_le_mul_right _ (by omega)
theorem ZAg {h : Heap} {b : Nat} {l : List Nat} (H : Holds h b l) : put h b l = h:=by
 have:=H.at_
 cases h with
 | mk bs fs =>
  simp only [put] at *
  congr 1
  apply List.ext_getElem?
  intro i
  by_cases hi : b = i
  ·subst hi
   rw [List.getElem?_set_self (by have:=(List.getElem?_eq_some_iff.1 this).1; exact this),this]
  ·rw [List.getElem?_set_ne hi]
theorem ZsP {W V : List Nat} {n : Nat} (p : StepPre W V n) : ∃ P t,t = dg W n * 4294967296 + dg W (n - 1)∧0 < P∧(dg V (n - 1) * 4294967296 + dg V (n - 2)) * P≤val V∧val V≤(dg V (n - 1) * 4294967296 + dg V (n - 2) + 1) * P ∧
  (t * 4294967296 + dg W (n - 2)) * P≤val W∧val W < (t * 4294967296 + dg W (n - 2) + 1) * P ∧
  t < dg V (n - 1) * 4294967296 + 4294967296∧val W / val V≤t / dg V (n - 1)∧0 < val V:=by
 obtain ⟨P,h⟩:=ZvT p
 exact ⟨P,_,rfl,h⟩
theorem Zqp (J : Al G T g) {h : Heap} {bu bv n : Nat} {A C V V2 W : List Nat} (HU : Holds h bu (A ++ W ++ C)) (HV : Holds h bv (V ++ V2)) (hne : bv≠bu) (p : StepPre W V n) :
  ∃ W',kJ G ZeJ.res (evL G T ZeJ.body (numE 0 [.own bu A.length (n + 1) 1,.own bv 0 n 1]) h) = some (.int .u32 ((val W / val V : Nat) : Int),put h bu (A ++ W' ++ C))∧W'.length = n + 1∧Dg W'∧val W' = val W % val V:=by
 obtain ⟨P,t,hte,hP,f1,f2,f3,f4,f5,f6,f7⟩:=ZsP p
 obtain ⟨hn,hs,hW,hV,dW,dV,top,lt⟩:=p
 have x0:=dW.dg n
 have x1:=dW.dg (n - 1)
 have y1:=dV.dg (n - 1)
 have ht : t < 18446744073709551616:=by omega
 have hmod:=Nat.mod_lt t (y:=dg V (n - 1)) (by omega)
 have hdm:=Nat.div_add_mod t (dg V (n - 1))
 rw [Nat.mul_comm] at hdm
 obtain ⟨_,hr,e,q',rfl,hq1,hq2,hq3⟩:=ZvU (G:=G) (T:=T) (t:=t) HU HV hW hV hn (by omega) dV dW rfl rfl rfl f7 f1 f2 f3 f4 lt (by omega) f5 ht _ _ (by omega) hdm f6
 obtain ⟨_,hr2,e2,W1,c,w,rfl,hW1,dW1,hc,hw,hv1⟩:=ZrR (G:=G) J HU HV hne hV (by omega) dV hq1 n 0 W 0 0 (by omega) hW dW (by decide) (by decide) (by simp [val])
 rw [ZAg HU,cast0] at hr2
 have HU1:=HU.put (A ++ W1 ++ C)
 have l0:=Zog (G:=G) HU (i:=n) (by omega)
 have l1:=Zog (G:=G) HU (i:=n - 1) (by omega)
 have l2:=Zrl (G:=G) HV (i:=n - 1) (by omega)
 have l3:=Zog (G:=G) HU1 (i:=n) (by omega)
 have i1 : (n : Int) - 1 = ((n - 1 : Nat) : Int):=by omega
 have w0 : (dg W n : Int) % 18446744073709551616 = dg W n:=by omega
 have w1 : (dg W (n - 1) : Int) % 18446744073709551616 = dg W (n - 1):=by omega
 have w2:=Znt x0 x1
 rw [← hte] at w2
 have w3 : (dg V (n - 1) : Int) % 18446744073709551616 = dg V (n - 1):=by omega
 have h2 : ¬ (dg V (n - 1) : Int) = 0:=by omega
 have hbig : t / dg V (n - 1) < 18446744073709551616:=Nat.lt_of_le_of_lt (Nat.div_le_self _ _) ht
 have w4 : (t : Int).tdiv (dg V (n - 1) : Int) = ((t / dg V (n - 1) : Nat) : Int):=rfl
 have w5 : (t : Int).tmod (dg V (n - 1) : Int) = ((t % dg V (n - 1) : Nat) : Int):=rfl
 generalize t / dg V (n - 1) = tq at *
 generalize t % dg V (n - 1) = tm at *
 have w6 : (tq : Int) % 18446744073709551616 = tq:=by omega
 have w7 : (c : Int) % 4294967296 = c:=by omega
 obtain ⟨d,z,hd,hz,hdz⟩:=ZyS (dW1.dg n) hc hw
 have call:=ZhS (G:=G) J (dW1.dg n) hc hw hd hz hdz
 have st:=ZqF HU1 (i:=n) (x:=d) (by omega)
 rw [Zlk] at st
 have hset:=Zlq (l:=W1) (j:=n) d (by omega)
 have hlen2 : (W1.set n d).length = n + 1:=by rw [List.length_set]; exact hW1
 have dW2:=ZdO (i:=n) dW1 hd
 have hlt2:=ZfE dW2
 rw [hlen2] at hlt2
 have key : val (W1.set n d) + q' * val V = val W + 4294967296 ^ (n + 1) * z:=by
  rw [Nat.pow_succ,Nat.mul_assoc]
  have h1 : 4294967296 ^ n * d + 4294967296 ^ n * c + 4294967296 ^ n * w = 4294967296 ^ n * dg W1 n + 4294967296 ^ n * (4294967296 * z):=by rw [← Nat.mul_add,← Nat.mul_add,hdz,Nat.mul_add]
  rw [Nat.mul_add] at hv1
  generalize 4294967296 ^ n * (4294967296 * z) = a1 at *
  generalize 4294967296 ^ n * d = a2 at *
  generalize 4294967296 ^ n * c = a3 at *
  generalize 4294967296 ^ n * w = a4 at *
  generalize 4294967296 ^ n * dg W1 n = a5 at *
  generalize q' * val V = a6 at *
  omega
 by_cases hz0 : z = 0
 ·subst hz0
  rw [Nat.mul_zero,Nat.add_zero] at key
  obtain ⟨k1,k2⟩:=ZyO f7 key hq2
  refine ⟨W1.set n d,?_,hlen2,dW2,k2⟩
  rw [← k1]
  rw [cast0] at call
  have w8 : (q' : Int) % 4294967296 = q':=by omega
  clear key k1 k2 hset hdm hlt2 f1 f2 f3 f4 f5 f6 hv1 lt hq2 hq3
  repeat (first | (simp (maxSteps:=9^7) only [seval,evB,ZeJ,l0,l1,l2,l3,i1,w0,w1,w2,w3,w4,w5,w6,w7,w8,h2,hr,hr2,call,st ]) | (simp (disch:=omega) only [dsB,Zew]))
 ·obtain rfl : z = 1:=by omega
  rw [Nat.mul_one] at key
  have HU2:=HU.put (A ++ W1.set n d ++ C)
  have HV2:=HV.other (l:=A ++ W1.set n d ++ C) hne
  obtain ⟨_,hr3,e3,W3,w',rfl,hW3,dW3,hw3,hv3,hn3⟩:=ZrQ (G:=G) (q:=q') J HU2 HV2 hne hV (by omega) dV n 0 (W1.set n d) 0 (by omega) hlen2 dW2 (by decide) (by simp [val]) rfl
  rw [Zlk,Zlk,cast0] at hr3
  have HU3:=HU.put (A ++ W3 ++ C)
  have l4:=Zog (G:=G) HU3 (i:=n) (by omega)
  have x3:=dW3.dg n
  have w9 : ((dg W3 n : Int) + w') % 4294967296 = (((dg W3 n + w') % 4294967296 : Nat) : Int):=by omega
  have hdd : dg W3 n + w' = (dg W3 n + w') % 4294967296 + 4294967296 * ((dg W3 n + w') / 4294967296):=by omega
  have hd3 : (dg W3 n + w') % 4294967296 < 4294967296:=Nat.mod_lt _ (by decide)
  generalize (dg W3 n + w') % 4294967296 = d3 at *
  generalize (dg W3 n + w') / 4294967296 = k3 at *
  have st3:=ZqF HU3 (i:=n) (x:=d3) (by omega)
  rw [Zlk] at st3
  have hset3:=Zlq (l:=W3) (j:=n) d3 (by omega)
  have hlen4 : (W3.set n d3).length = n + 1:=by rw [List.length_set]; exact hW3
  have dW4:=ZdO (i:=n) dW3 hd3
  have hlt4:=ZfE dW4
  rw [hlen4] at hlt4
  have key4 : val (W3.set n d3) + 4294967296 ^ (n + 1) * k3 = val (W1.set n d) + val V:=by
   rw [Nat.pow_succ,Nat.mul_assoc]
   have h1 : 4294967296 ^ n * dg W3 n + 4294967296 ^ n * w' = 4294967296 ^ n * d3 + 4294967296 ^ n * (4294967296 * k3):=by rw [← Nat.mul_add,← Nat.mul_add,hdd]
   generalize 4294967296 ^ n * (4294967296 * k3) = a1 at *
   generalize 4294967296 ^ n * d3 = a2 at *
   generalize 4294967296 ^ n * w' = a3 at *
   generalize 4294967296 ^ n * dg W3 n = a4 at *
   omega
  have hYB : val V≤4294967296 ^ (n + 1):=by
   have h1:=ZfE dV
   rw [hV] at h1
   exact Nat.le_of_lt (Nat.lt_of_lt_of_le h1 (Nat.pow_le_pow_right (by decide) (Nat.le_succ n)))
  obtain ⟨k1,k2⟩:=ZyP f7 hYB key hlt2 hq3 key4 hlt4
  refine ⟨W3.set n d3,?_,hlen4,dW4,k2⟩
  have hq : val W / val V = q' - 1:=by rw [k1,Nat.add_sub_cancel]
  have hq0 : 1≤q':=by rw [k1]; exact Nat.le_add_left 1 _
  rw [hq]
  rw [show ((1 : Nat) : Int) = 1 from rfl] at call
  have w8 : ((q' : Int) - 1) % 18446744073709551616 = ((q' - 1 : Nat) : Int):=by omega
  have w10 : ((q' - 1 : Nat) : Int) % 4294967296 = ((q' - 1 : Nat) : Int):=by omega
  clear key k1 k2 hset hdm hlt2 f1 f2 f3 f4 f5 f6 hv1 lt hq2 hq3 key4 hset3 hYB hdd hv3 hlt4 hq
  repeat (first | (simp (maxSteps:=9^7) only [seval,evB,ZeJ,l0,l1,l2,l3,l4,i1,w0,w1,w2,w3,w4,w5,w6,w7,w8,w9,w10,h2,hr,hr2,hr3,call,st,st3 ]) | (simp (disch:=omega) only [dsB,Zew]))
def KeepsAll (h0 h : Heap) (v : AV) : Prop:=∀ bv lv,Holds h0 bv lv→Holds h bv lv∧∀ b o n s,v = .own b o n s→b≠bv
theorem ZnE {h0 h : Heap} {v : AV} {l : List Nat} (B : Bld h v l) (K : KeepsAll h0 h v) {w : Int} (hw : 0≤w) (hl : l.length < 1099511627776) :
  KeepsAll h0 (appH h v w) (.own (h.b.length + 1) 0 (l.length + 1) 1):=by
 intro bv lv H0
 obtain ⟨HH,hne⟩:=K bv lv H0
 obtain ⟨hf,hB⟩:=B
 have e0 : sliceCells (Heap.mem ⟨h.b ++ [⟨[.int .u32 w],false⟩],h.f⟩) 1 (.own h.b.length 0 1 1) = some (1,cells [w.toNat]):=by
  have : (Heap.mem ⟨h.b ++ [⟨[.int .u32 w],false⟩],h.f⟩) h.b.length = some ⟨cells [w.toNat],false⟩:=by
   simp [Heap.mem,cells,Int.toNat_of_nonneg hw]
  simp [sliceCells,rdBlk,this,cells]
 have key : ∃ h',appV ⟨h.b ++ [⟨[.int .u32 w],false⟩],h.f⟩ 1 4 v (.own h.b.length 0 1 1) = some (.own (h.b.length + 1) 0 (l.length + 1) 1,h') ∧
   h'.f = h.f∧h'.b[bv]? = h.b[bv]?:=by
  rcases hB with ⟨rfl,rfl⟩ | ⟨b,l2,rfl,H⟩
  ·refine ⟨⟨(h.b ++ [⟨[.int .u32 w],false⟩]) ++ [⟨cells [w.toNat],false⟩],h.f⟩,?_,rfl,?_⟩
   ·simp only [appV,e0,Nat.succ_ne_zero,if_false]
    rw [if_pos (by decide)]
    simp
   ·show (h.b ++ _ ++ _)[bv]? = _
    rw [List.getElem?_append_left (by simp only [List.length_append]; have:=HH.lt; omega),List.getElem?_append_left HH.lt]
  ·refine ⟨⟨(h.b ++ [(⟨[.int .u32 w],false⟩ : Blk)]).set b ⟨cells (l ++ l2),true⟩ ++ [⟨cells (l ++ [w.toNat]),false⟩],h.f⟩,?_,rfl,?_⟩
   ·simp only [appV,e0]
    rw [List.getElem?_append_left H.lt,H.at_]
    simp only
    rw [if_pos ⟨trivial,trivial,H.fre,by rw [Zbn,List.length_append]; omega,by simp only [boundApp]; omega⟩]
    simp only [List.length_append,List.length_cons,List.length_nil,List.drop_zero,Nat.mul_one]
    rw [Zgi,List.take_left' rfl,ZqV,Nat.zero_add]
   ·have hb : b≠bv:=hne _ _ _ _ rfl
    show ((h.b ++ _).set b _ ++ _)[bv]? = _
    rw [List.getElem?_append_left (by rw [List.length_set,List.length_append]; have:=HH.lt; omega),List.getElem?_set_ne hb,List.getElem?_append_left HH.lt]
 obtain ⟨h',k1,k2,k3⟩:=key
 have e : appH h v w = h':=by simp only [appH,k1,Option.getD_some]
 rw [e]
 refine ⟨⟨by rw [k3]; exact HH.at_,by rw [k2]; exact HH.fre⟩,?_⟩
 intro b o n s hv
 have:=HH.lt
 injection hv with hb
 omega
theorem Zvm {h0 : Heap} {a : List Nat} {z : Bool} {q s : Nat} (ha : Dg a) (hs : s < 32) (hb : q + a.length < 549755813888) : ∀ (m i : Nat) (h : Heap) (v : AV) (l : List Nat) (c : Nat),
  m + i = a.length→Bld h v l→KeepsAll h0 h v→Dg l→l.length = q + i→c < 2 ^ s→val l + 4294967296 ^ (q + i) * c = 4294967296 ^ q * 2 ^ s * val (a.take i) →
  Post (evL G T Zdw [(5,v),(6,.int .i64 (s : Int)),(7,.int .u32 (c : Int)),(24,D z a),(25,.int .i64 ((a.length : Nat) : Int)),(26,.int .i64 (i : Int))] h) fun r =>
   ∃ e h' v' l',∃ c' : Nat,r = (.exit 0,(5,v') :: (6,.int .i64 (s : Int)) :: (7,.int .u32 (c' : Int)) :: e,h')∧Bld h' v' l'∧KeepsAll h0 h' v'∧Dg l'∧l'.length = q + a.length∧c' < 2 ^ s∧val (l' ++ [c']) = 4294967296 ^ q * 2 ^ s * val a
 | 0,i,h,v,l,c,hm,B,K,hd,hl,hc,he => by
  rw [Zad G T (c:=Zdw) rfl]
  have h1 : ¬ (i : Int) < a.length:=by omega
  repeat (first | (simp (maxSteps:=9^7) only [seval,evB,Zgs,h1]) | (simp (disch:=omega) only [dsB]))
  refine Post.some ⟨_,_,_,_,_,rfl,B,K,hd,by omega,hc,?_⟩
  rw [List.take_of_length_le (by omega)] at he
  rw [Zdu,hl,he]
 | m + 1,i,h,v,l,c,hm,B,K,hd,hl,hc,he => by
  rw [Zad G T (c:=Zdw) rfl]
  have ha':=ha.dg i
  have e7 : (i : Int) + 1 = ((i + 1 : Nat) : Int):=by omega
  have h1 : (i : Int) < a.length:=by omega
  have hk:=ZpN hc ha'
  have hp : (2 : Nat) ^ s≤2 ^ 31:=Nat.pow_le_pow_right (by decide) (by omega)
  have w1 : (dg a i : Int) % 18446744073709551616 = dg a i:=by omega
  have w2 : min s 32 = s:=by omega
  have w3 : (dg a i : Int) * 2 ^ s % 4294967296 = ((dg a i * 2 ^ s % 4294967296 : Nat) : Int):=by
   rw [ZaZ,← Int.natCast_mul]; omega
  have w4 : orI .u32 ((dg a i * 2 ^ s % 4294967296 : Nat) : Int) (c : Int) = ((c + dg a i * 2 ^ s % 4294967296 : Nat) : Int):=by
   rw [or32 (by omega) (by omega),Nat.or_comm,ZqA (by omega),ZkZ hc]
  have w5 : (32 - (s : Int)) = ((32 - s : Nat) : Int):=by omega
  have w6 : min (32 - s) 64 = 32 - s:=by omega
  have w7 : (dg a i : Int) / 2 ^ (32 - s) = ((dg a i / 2 ^ (32 - s) : Nat) : Int):=by rw [ZaZ]; rfl
  have hsm : dg a i * 2 ^ s % 4294967296 + c < 4294967296:=by
   have e0:=ZqA (x:=dg a i) (s:=s) (by omega)
   have e1 : dg a i % 2 ^ (32 - s) < 2 ^ (32 - s):=Nat.mod_lt _ (Nat.two_pow_pos _)
   have e2 : (dg a i % 2 ^ (32 - s) + 1) * 2 ^ s≤2 ^ (32 - s) * 2 ^ s:=Nat.mul_le_mul_right _ e1
   rw [← Nat.pow_add,show 32 - s + s = 32 by omega,Nat.add_mul] at e2
   omega
  have hcd : (dg a i * 2 ^ s % 4294967296 + c) + 4294967296 * (dg a i * 2 ^ s / 4294967296) = c + dg a i * 2 ^ s:=by omega
  have hcl : dg a i * 2 ^ s / 4294967296 < 2 ^ s:=by
   refine Nat.lt_of_le_of_lt ?_ hk
   exact Nat.div_le_div_right (by omega)
  have w8 : ((dg a i / 2 ^ (32 - s) : Nat) : Int) % 4294967296 = ((dg a i * 2 ^ s / 4294967296 : Nat) : Int):=by
   rw [ZrK (by omega)]; omega
  repeat (first | (simp (maxSteps:=9^7) only [seval,evB,Zgs,h1,w1,w2,w3,w4,w5,w6,w7,w8 ]) | (simp (disch:=omega) only [dsB,ZkU B]))
  rw [e7]
  refine Zvm ha hs hb m (i + 1) _ _ _ _ (by omega) (ZcZ B (by omega) (by omega)).2 (ZnE B K (by omega) (by omega)) (ZbX hd (by omega)) (by rw [List.length_append,hl]; rfl) hcl ?_
  rw [Zac]
  refine ZsS (j:=q + i) (q:=q) (i:=i) hl rfl he ?_
  rw [Int.toNat_natCast,Nat.add_comm c]; exact hcd
theorem Zuo (J : Al G T g) {h : Heap} (hf : FreH h) {z : Bool} {a n : Nat} (ha : a≠0) (hs : (dl a).length < 137438953472) (hn : n < 1099511627776) :
  ∃ b l2 h',kJ G Zhd.res (evL G T Zhd.body (numE 0 [D z (dl a),.int .i64 (n : Int)]) h) = some (.own b 0 (dl (a * 2 ^ n)).length 1,h')∧Holds h' b (dl (a * 2 ^ n) ++ l2)∧Dg l2∧FreH h'∧KeepsAll h h' (.own b 0 (dl (a * 2 ^ n)).length 1):=by
 have h0 : ¬ ((dl a).length : Int) = 0:=by
  intro hc
  exact ha (Zfz.1 (List.length_eq_zero_iff.1 (by omega)))
 have hnm : n / 32≤n / 32 + (dl a).length + 1:=by omega
 have K0 : KeepsAll h (new h (List.replicate (n / 32 + (dl a).length + 1) 0)) (.own h.b.length 0 (n / 32) 1):=fun bv lv H => ⟨H.new,fun b o n s hv => by have:=H.lt; injection hv with hb; omega⟩
 obtain ⟨r,hr,e,h',v',l',c',rfl,B,K,hd,hl,hc,hv⟩:=Zvm (G:=G) (T:=T) (z:=z) (q:=n / 32) (s:=n % 32) (ZaA a) (by omega) (by omega) (dl a).length 0 _ _ _ 0 rfl (Ztb hf (n / 32) _ hnm) K0 (Zjv _) (by simp) (Nat.two_pow_pos _) (by simp [ZqK,val])
 rw [cast0] at hr
 have hp : c' < 4294967296:=by
  have : (2 : Nat) ^ (n % 32)≤2 ^ 31:=Nat.pow_le_pow_right (by decide) (by omega)
  omega
 have m1 : (((n / 32 : Nat) : Int) + ((dl a).length : Nat) + 1).toNat = n / 32 + (dl a).length + 1:=by omega
 obtain ⟨hap,HB,B2⟩:=Zls B (w:=(c' : Int)) (by omega) (by omega)
 have K2:=ZnE B K (w:=(c' : Int)) (by omega) (by omega)
 rw [Int.toNat_natCast] at HB
 have hd2:=ZbX hd hp
 have hlen : (l' ++ [c']).length = l'.length + 1:=by rw [List.length_append]; rfl
 obtain ⟨n',e',ht,hn',htk⟩:=ZqH (G:=G) (T:=T) HB hd2 (by omega) (l'.length + 1) (by omega)
 rw [← hlen,List.take_length,hv,ZaN,pow32,← Nat.pow_add,show 32 * (n / 32) + n % 32 = n by omega,Nat.mul_comm] at htk
 have hn2 : n' = (dl (a * 2 ^ n)).length:=by rw [← htk,List.length_take]; omega
 subst hn2
 have hw1 : IntKind.i64.wrap ((n / 32 : Nat) : Int) = ((n / 32 : Nat) : Int):=Zaf (by omega)
 refine ⟨h'.b.length + 1,(l' ++ [c']).drop (dl (a * 2 ^ n)).length,appH h' v' c',?_,?_,hd2.drop _,B2.1,?_⟩
 ·repeat (first | (simp (maxSteps:=9^7) only [seval,evB,Zhd,h0,hw1,m1,hr,hap,Zbi G T J.A.Zcd,Zgg,ht]) | (simp (disch:=omega) only [dsB]))
 ·rw [← htk,List.length_take,Nat.min_eq_left hn',List.take_append_drop]; exact HB
 ·intro bv lv H
  obtain ⟨k1,k2⟩:=K2 bv lv H
  exact ⟨k1,fun b o n s hv => by injection hv with hb; subst hb; exact k2 _ _ _ _ rfl⟩
theorem ZGs {h : Heap} {b n : Nat} {l : List Nat} (H : Holds h b l) (hn : n≤l.length) {lo hi : Nat} (h1 : lo≤hi∧hi≤n∧lo < n) :
  evSlice h.mem 1 (.own b 0 n 1) (some (.int .i64 (lo : Int))) (some (.int .i64 (hi : Int))) = some (.own b lo (hi - lo) 1):=by
 simp only [evSlice,lenA,capA,bound,H.mem,Bool.false_eq_true,if_false,Nat.succ_ne_zero,Zbn]
 rw [if_pos (by refine ⟨by omega,by omega,?_⟩; omega),if_pos ⟨trivial,Or.inr (by omega)⟩]
 have e0 : ((hi : Int) - (lo : Int)).toNat = hi - lo:=by omega
 rw [e0,Int.toNat_natCast,Nat.mul_one,Nat.zero_add]
theorem ZzW {n j N : Nat} {U0 R V : List Nat} (hn : 2≤n) (hs : N < 17179869184) (hV : V.length = n) (dV : Dg V) (d0 : Dg U0) (dR : Dg R) (top : 2147483648≤dg V (n - 1)) (hU : U0.length = N) (hR : R.length = N - (j + 1)) (hj : j + 1 + n≤N) (hlt : val R < val V) :
  StepPre ((dg U0 j :: R).take (n + 1)) V n∧val ((dg U0 j :: R).take (n + 1)) = dg U0 j + 4294967296 * val R∧val ((dg U0 j :: R).drop (n + 1)) = 0:=by
 have dX : Dg (dg U0 j :: R):=ZeF.2 ⟨d0.dg j,dR⟩
 have hX : val (dg U0 j :: R) < 4294967296 * val V:=by
  rw [ZaD]; have:=d0.dg j; omega
 have hVb:=ZfE dV
 rw [hV] at hVb
 have hB : val (dg U0 j :: R) < 4294967296 ^ (n + 1):=by
  rw [Nat.pow_succ,Nat.mul_comm]
  exact Nat.lt_of_lt_of_le hX (Nat.mul_le_mul_left _ (Nat.le_of_lt hVb))
 have e1:=Zvo dX (n + 1)
 have e2:=Znx dX (n + 1)
 rw [Nat.mod_eq_of_lt hB] at e1
 rw [Nat.div_eq_of_lt hB] at e2
 refine ⟨⟨hn,by omega,?_,hV,dX.take _,dV,top,by rw [e1]; exact hX⟩,by rw [e1,ZaD],e2⟩
 rw [List.length_take,List.length_cons]; omega
theorem ZxM {U0 Q V : List Nat} {j q r X R : Nat} (hj : j < U0.length) (hq : j < Q.length) (h : val (U0.drop (j + 1)) = val (Q.drop (j + 1)) * val V + R) (hX : X = dg U0 j + 4294967296 * R) :
  val (U0.drop j) = val ((Q.set j (X / val V)).drop j) * val V + X % val V:=by
 rw [Zer hj,ZtC hq,ZaD,ZaD,h]
 have h2:=Nat.div_add_mod X (val V)
 generalize X / val V = a at *
 generalize X % val V = b at *
 rw [Nat.mul_add,Nat.add_mul,Nat.mul_assoc,Nat.mul_comm a]
 generalize val (Q.drop (j + 1)) * val V = c at *
 omega
theorem Zrm (J : Al G T g) {bu bv bq n N m : Nat} {U0 C V V2 : List Nat} {s : AV} (h1 : bv≠bu) (h2 : bq≠bu) (h3 : bv≠bq) (hn : 2≤n) (hs : N < 17179869184) (hV : V.length = n) (dV : Dg V) (d0 : Dg U0) (top : 2147483648≤dg V (n - 1)) (hU : U0.length = N) (hm : N = m + n) :
  ∀ (j : Nat) (h : Heap) (R Q : List Nat),j≤m→Holds h bu (U0.take j ++ R ++ C)→Holds h bv (V ++ V2)→Holds h bq Q→Dg R→R.length = N - j→Dg Q→Q.length = m→val R < val V→val (U0.drop j) = val (Q.drop j) * val V + val R →
  Post (evL G T ZfQ [(6,s),(7,.own bv 0 n 1),(8,.own bu 0 N 1),(9,.int .i64 (n : Int)),(10,.own bq 0 m 1),(11,.int .i64 ((j : Int) - 1))] h) fun r =>
   ∃ e h' R' Q',r = (.exit 2,(6,s) :: (7,.own bv 0 n 1) :: (8,.own bu 0 N 1) :: (9,.int .i64 (n : Int)) :: (10,.own bq 0 m 1) :: e,h')∧Holds h' bu (R' ++ C)∧Holds h' bq Q'∧Dg R'∧R'.length = N∧Dg Q'∧Q'.length = m∧val R' < val V∧val U0 = val Q' * val V + val R'
 | 0,h,R,Q,hj,HU,HV,HQ,dR,hR,dQ,hQ,hlt,he => by
  rw [Zad G T (c:=ZfQ) rfl]
  have c1 : ¬ (0 : Int)≤((0 : Nat) : Int) - 1:=by omega
  repeat (first | (simp (maxSteps:=9^7) only [seval,evB,ZiD,c1]) | (simp (disch:=omega) only [dsB]))
  rw [List.take_zero,List.nil_append] at HU
  exact Post.some ⟨_,_,_,_,rfl,HU,HQ,dR,hR,dQ,hQ,hlt,he⟩
 | j + 1,h,R,Q,hj,HU,HV,HQ,dR,hR,dQ,hQ,hlt,he => by
  rw [Zad G T (c:=ZfQ) rfl]
  have e1 : ((j + 1 : Nat) : Int) - 1 = (j : Int):=by omega
  have c1 : (0 : Int)≤(j : Int):=by omega
  obtain ⟨p,v1,v2⟩:=ZzW (j:=j) (U0:=U0) (R:=R) (N:=N) hn hs hV dV d0 dR top hU hR (by omega) hlt
  have hls:=ZxM (U0:=U0) (Q:=Q) (V:=V) (j:=j) (q:=0) (r:=0) (by omega) (by omega) he v1
  have hlen : (dg U0 j :: R).length = N - j:=by rw [List.length_cons]; omega
  have dX : Dg (dg U0 j :: R):=ZeF.2 ⟨d0.dg j,dR⟩
  have hsp : U0.take (j + 1) ++ R ++ C = U0.take j ++ (dg U0 j :: R).take (n + 1) ++ ((dg U0 j :: R).drop (n + 1) ++ C):=by
   rw [Zkn (by omega)]
   simp only [List.append_assoc,List.singleton_append]
   rw [← List.append_assoc (List.take (n + 1) _),List.take_append_drop,List.cons_append]
  have hcl : N≤(U0.take (j + 1) ++ R ++ C).length:=by
   simp only [List.length_append,List.length_take]; omega
  have sl:=ZGs HU hcl (lo:=j) (hi:=j + n + 1) ⟨by omega,by omega,by omega⟩
  rw [show j + n + 1 - j = n + 1 by omega] at sl
  have e2 : (j : Int) + (n : Int) + 1 = ((j + n + 1 : Nat) : Int):=by omega
  rw [hsp] at HU
  have htl : (U0.take j).length = j:=by rw [List.length_take]; omega
  obtain ⟨W',hst,hW',dW',hv'⟩:=Zqp (G:=G) J HU HV h1 p
  rw [htl] at hst
  simp only [ZlQ,Znm,Nat.reduceAdd,Nat.zero_add] at hst
  have hlt' : val W' < val V:=by rw [hv']; exact Nat.mod_lt _ (by have:=ZfE dV; omega)
  have HU':=HU.put (U0.take j ++ W' ++ ((dg U0 j :: R).drop (n + 1) ++ C))
  have HV':=HV.other (l:=U0.take j ++ W' ++ ((dg U0 j :: R).drop (n + 1) ++ C)) h1
  have HQ':=HQ.other (l:=U0.take j ++ W' ++ ((dg U0 j :: R).drop (n + 1) ++ C)) h2
  have st:=ZcE HQ' (i:=j) (x:=val (List.take (n + 1) (dg U0 j :: R)) / val V) (by omega)
  have hqd : val (List.take (n + 1) (dg U0 j :: R)) / val V < 4294967296:=ZqY p.lt (Nat.le_refl _)
  have HU2:=HU'.other (l:=Q.set j (val (List.take (n + 1) (dg U0 j :: R)) / val V)) h2.symm
  have HV2:=HV'.other (l:=Q.set j (val (List.take (n + 1) (dg U0 j :: R)) / val V)) h3
  have HQ2:=HQ'.put (Q.set j (val (List.take (n + 1) (dg U0 j :: R)) / val V))
  rw [e1]
  repeat (first | (simp (maxSteps:=9^7) only [seval,evB,ZiD,c1,e2,sl,Zbi G T J.A.Zqp,hst,st]) | (simp (disch:=omega) only [dsB]))
  have hR2 : val (W' ++ (dg U0 j :: R).drop (n + 1)) = val W':=by rw [ZoO,v2,Nat.mul_zero,Nat.add_zero]
  have hl : U0.take j ++ (W' ++ (dg U0 j :: R).drop (n + 1)) ++ C = U0.take j ++ W' ++ ((dg U0 j :: R).drop (n + 1) ++ C):=by simp only [List.append_assoc]
  refine Zrm J h1 h2 h3 hn hs hV dV d0 top hU hm j _ (W' ++ (dg U0 j :: R).drop (n + 1)) _ (by omega) (by rw [hl]; exact HU2) HV2 HQ2 (ZAC.2 ⟨dW',dX.drop _⟩) ?_ (ZdO dQ hqd) (by rw [List.length_set]; exact hQ) (by rw [hR2]; exact hlt') ?_
  ·rw [List.length_append,List.length_drop,hW',hlen]; omega
  ·rw [hR2,hv']; exact hls
theorem ZzL {h0 h : Heap} {b La : Nat} {L C A : List Nat} {za : Bool} {s6 s7 : AV} (H : Holds h b (L ++ C)) (hf : FreH h) (dL : Dg L) (hL : L.length = La) (hs : A.length < 17179869184) (hlen : La = A.length∨La = A.length + 1) (K : KeepsAll h0 h (.own b 0 La 1)) :
  Post (evL G T ZdU [(0,D za A),(6,s6),(7,s7),(8,.own b 0 La 1)] h) fun r =>
   ∃ e h' b' C' U,r = (.exit 0,(0,D za A) :: (6,s6) :: (7,s7) :: (8,.own b' 0 (A.length + 1) 1) :: e,h')∧Holds h' b' (U ++ C')∧FreH h'∧U.length = A.length + 1∧Dg U∧val U = val L∧KeepsAll h0 h' (.own b' 0 (A.length + 1) 1):=by
 subst hL
 rw [Zad G T (c:=ZdU) rfl]
 rcases hlen with hl | hl
 ·have c1 : ((L.length : Nat) : Int)≤((A.length : Nat) : Int):=by omega
  have B : Bld h (.own b 0 L.length 1) L:=⟨hf,Or.inr ⟨b,C,rfl,H⟩⟩
  obtain ⟨ha1,ha2,ha3⟩:=Zls B (w:=0) (by decide) (by omega)
  have K2:=ZnE B K (w:=0) (by decide) (by omega)
  have c2 : ¬ (((L.length + 1 : Nat) : Int)≤((A.length : Nat) : Int)):=by omega
  have e : Post (evL G T ZdU [(0,D za A),(6,s6),(7,s7),(8,.own (h.b.length + 1) 0 (L.length + 1) 1)] (appH h (.own b 0 L.length 1) 0)) fun r =>
   ∃ e h' b' C' U,r = (.exit 0,(0,D za A) :: (6,s6) :: (7,s7) :: (8,.own b' 0 (A.length + 1) 1) :: e,h')∧Holds h' b' (U ++ C')∧FreH h'∧U.length = A.length + 1∧Dg U∧val U = val L∧KeepsAll h0 h' (.own b' 0 (A.length + 1) 1):=by
   rw [Zad G T (c:=ZdU) rfl]
   repeat (first | (simp (maxSteps:=9^7) only [seval,evB,ZfP,c2]) | (simp (disch:=omega) only [dsB]))
   refine Post.some ⟨_,_,_,[],L ++ [0],by rw [hl],by rw [List.append_nil]; exact ha2,ha3.1,by rw [List.length_append,hl]; rfl,ZbX dL (by decide),by rw [Zdu,Nat.mul_zero,Nat.add_zero],by rw [← hl]; exact K2⟩
  repeat (first | (simp (maxSteps:=9^7) only [seval,evB,ZfP,c1,ha1]) | (simp (disch:=omega) only [dsB]))
  exact e
 ·have c1 : ¬ (((L.length : Nat) : Int)≤((A.length : Nat) : Int)):=by omega
  repeat (first | (simp (maxSteps:=9^7) only [seval,evB,ZfP,c1]) | (simp (disch:=omega) only [dsB]))
  exact Post.some ⟨_,_,_,C,L,by rw [hl],H,hf,hl,dL,rfl,by rw [← hl]; exact K⟩
theorem ZzX {b n s : Nat} (hn : (dl b).length = n) (h0 : 0 < n) (hs : s = 32 - blen (dg (dl b) (n - 1))) : s < 32∧(dl (b * 2 ^ s)).length = n∧2147483648≤dg (dl (b * 2 ^ s)) (n - 1):=by
 have hb0 : b≠0:=by rintro rfl; rw [Zan] at hn; simp at hn; omega
 have hbl:=ZpM hb0
 rw [hn] at hbl
 have ht : blen (dg (dl b) (n - 1))≤32:=Zae.2 ((ZaA b).dg _)
 have hb1:=Zaa b
 rw [hn] at hb1
 have hm:=Zaq hb0 s
 have e1 : blen (b * 2 ^ s) = 32 * n:=by omega
 have e2 : (dl (b * 2 ^ s)).length = n:=by rw [Zaa]; omega
 have hm0 : b * 2 ^ s≠0:=Nat.mul_ne_zero hb0 (Nat.ne_of_gt (Nat.two_pow_pos s))
 have e3:=ZpM hm0
 rw [e2,e1] at e3
 have e4 : 31 < blen (dg (dl (b * 2 ^ s)) (n - 1)):=by omega
 exact ⟨by omega,e2,ZaP.1 e4⟩
theorem ZvM {a b s m n N : Nat} {U : List Nat} (dU : Dg U) (hN : U.length = N) (hU : val U = a * 2 ^ s) (ha : (dl a).length + 1 = N) (hb : (dl b).length = n) (h0 : 0 < n) (hm : N = m + n) : val (U.drop m) < b * 2 ^ s:=by
 rw [Znx dU,hU]
 apply Nat.div_lt_of_lt_mul
 have h1 : a < 4294967296 ^ (N - 1):=Zcu.1 (by omega)
 have h2 : 4294967296 ^ (n - 1)≤b:=by
  apply Classical.byContradiction; intro hc
  have:=Zcu.2 (Nat.lt_of_not_le hc)
  omega
 have h3 : a < 4294967296 ^ m * b:=by
  refine Nat.lt_of_lt_of_le h1 ?_
  rw [show N - 1 = m + (n - 1) by omega,Nat.pow_add]
  exact Nat.mul_le_mul_left _ h2
 rw [← Nat.mul_assoc]
 exact Nat.mul_lt_mul_of_pos_right h3 (Nat.two_pow_pos s)
theorem Zqo (J : Al G T g) {z y : Bool} {a b : Nat} (hb : 2≤(dl b).length) (hab : b≤a) (hs : (dl a).length < 8589934592) : ∃ z1 z2,run G T 109 [D z (dl a),D y (dl b)] = some (.tup [D z1 (dl (a / b)),D z2 (dl (a % b))]):=by
 obtain ⟨n,hn⟩ : ∃ n,n = (dl b).length:=⟨_,rfl⟩
 obtain ⟨s,hs1⟩ : ∃ s,s = 32 - blen (dg (dl b) (n - 1)):=⟨_,rfl⟩
 obtain ⟨t1,t2,t3⟩:=ZzX hn.symm (by omega) hs1
 have hb0 : b≠0:=by rintro rfl; rw [Zan] at hb; exact absurd hb (by decide)
 have ha0 : a≠0:=by omega
 have hle : (dl b).length≤(dl a).length:=by
  have h1:=ZaE hab
  have h2:=Zaa a
  have h3:=Zaa b
  omega
 obtain ⟨bv,V2,h1,r1,H1,dV2,F1,K1⟩:=Zuo (G:=G) (z:=y) J (h:=.nil) FreH.nil hb0 (by omega) (n:=s) (by omega)
 obtain ⟨bu,l2,h2,r2,H2,d2,F2,K2⟩:=Zuo (G:=G) (z:=z) J (h:=h1) F1 ha0 (by omega) (n:=s) (by omega)
 simp only [ZlQ,Znm,Nat.reduceAdd,Nat.zero_add] at r1 r2
 have hLa : (dl (a * 2 ^ s)).length = (dl a).length∨(dl (a * 2 ^ s)).length = (dl a).length + 1:=by
  rw [Zaa,Zaa,Zaq ha0]; omega
 obtain ⟨_,r3,e3,h3,bu3,C3,U,rfl,H3,F3,hUl,dU,hUv,K3⟩:=ZzL (G:=G) (T:=T) (h0:=h1) (za:=z) (s6:=.int .i64 (s : Int)) (s7:=.own bv 0 n 1) H2 F2 (ZaA _) rfl (A:=dl a) (by omega) hLa K2
 rw [ZaN] at hUv
 obtain ⟨HV3,hne3⟩:=K3 _ _ H1
 obtain ⟨m,hm⟩ : ∃ m,(dl a).length + 1 = m + n:=⟨(dl a).length + 1 - n,by omega⟩
 have hfirst:=ZvM dU hUl hUv rfl hn.symm (by omega) hm
 have HQ:=ZbB F3 (List.replicate m 0)
 have HU4:=H3.new (m:=List.replicate m 0)
 have HV4:=HV3.new (m:=List.replicate m 0)
 have q1 : bv≠bu3:=(hne3 _ _ _ _ rfl).symm
 have q2 : h3.b.length≠bu3:=by have:=H3.lt; omega
 have q3 : bv≠h3.b.length:=by have:=HV3.lt; omega
 have vV : val (dl (b * 2 ^ s)) = b * 2 ^ s:=ZaN _
 obtain ⟨_,r4,e4,h4,R,Q,rfl,HU5,HQ5,dR,hR,dQ,hQ,hlt,hv⟩:=Zrm (G:=G) (m:=m) (N:=(dl a).length + 1) (n:=n) (s:=.int .i64 (s : Int)) J q1 q2 q3 (by omega) (by omega) t2 (ZaA _) dU t3 hUl hm m (new h3 (List.replicate m 0)) (U.drop m) (List.replicate m 0) (Nat.le_refl _) (by rw [List.take_append_drop]; exact HU4) HV4 HQ (dU.drop _) (by rw [List.length_drop,hUl]) (Zjv _) (List.length_replicate ..) (by rw [vV]; exact hfirst) (by
  have : (List.replicate m 0).drop m = []:=List.drop_eq_nil_of_le (by rw [List.length_replicate]; exact Nat.le_refl _)
  rw [this]; simp [val])
 rw [vV] at hlt hv
 rw [hUv] at hv
 have hq : val Q = a / b:=by
  have h1:=(ZjJ hlt hv).1
  rw [h1,Nat.mul_div_mul_right _ _ (Nat.two_pow_pos s)]
 have hr : val R = a % b * 2 ^ s:=by
  have h1:=(ZjJ hlt hv).2
  rw [h1,Nat.mul_mod_mul_right]
 have hRn : val (R.take n) = val R:=by
  rw [Zvo dR,Nat.mod_eq_of_lt]
  refine Nat.lt_of_lt_of_le hlt ?_
  have:=ZfE (ZaA (b * 2 ^ s))
  rw [t2,ZaN] at this
  exact Nat.le_of_lt this
 obtain ⟨z1,hz1⟩:=Zcd J (z:=false) dQ (by omega)
 obtain ⟨z2,hz2⟩:=Zcd J (z:=false) (dR.take n) (by rw [List.length_take]; omega)
 rw [hRn,hr] at hz2
 rw [hq] at hz1
 have hsb : (dl (a % b * 2 ^ s)).length≤n:=by
  have:=Zcu.1 (Nat.le_refl (dl (b * 2 ^ s)).length)
  rw [t2] at this
  exact Zcu.2 (Nat.lt_of_le_of_lt (Nat.mul_le_mul_right _ (Nat.le_of_lt (Nat.mod_lt a (by omega)))) this)
 obtain ⟨z3,hz3⟩:=Znl J (z:=z2) (a:=a % b * 2 ^ s) (n:=s) (by omega) (by omega)
 rw [Nat.mul_div_cancel _ (Nat.two_pow_pos s)] at hz3
 have hsl : (dl (a % b)).length < 1099511627776:=by
  have h1:=ZaE (Nat.le_of_lt (Nat.mod_lt a (Nat.pos_of_ne_zero hb0)))
  have h2:=Zaa (a % b)
  have h3:=Zaa b
  omega
 obtain ⟨z4,hz4⟩:=Zcd J (z:=z3) (ZaA (a % b)) hsl
 rw [ZaN] at hz4
 have sq:=Zce HQ5 (n:=m) (by omega)
 rw [← hQ,List.take_length,hQ] at sq
 have su:=Zce HU5 (n:=n) (by rw [List.length_append]; omega)
 rw [List.take_append_of_le_length (by omega)] at su
 have slu:=ZBX (n:=(dl a).length + 1) (off:=0) (k:=.i64) (j:=(n : Int)) HU5.mem ⟨by omega,by rw [Int.toNat_natCast]; omega⟩
 rw [Int.toNat_natCast] at slu
 have i1 : ((dl b).length : Int) - 1 = (((dl b).length - 1 : Nat) : Int):=by omega
 have lz:=ZCO (G:=G) J ((ZaA b).dg (n - 1))
 rw [← hs1] at lz
 have w1 : (((dl a).length + 1 : Nat) : Int) - (n : Int) = (m : Int):=by omega
 have mm : ∀ f : List Nat,(⟨h4.b,f⟩ : Heap).mem = h4.mem:=fun _ => rfl
 refine ⟨z1,z4,?_⟩
 rw [Zab G T J.A.Zqo]
 clear hLa hUv hfirst hlt hv hq hr hRn hsb hsl
 subst hn
 rw [t2] at r1
 repeat (first | (simp (maxSteps:=9^7) only [seval,evB,Zkv,i1,lz,Zbi G T J.A.Zun,r1,r2,r3,r4,w1,sq,hz1,slu,su,hz2,hz3,hz4,mm,ZnU]) | (simp (disch:=omega) only [dsB]))
theorem Zzn (e : Env) (h : Heap) : evL G T ZjF e h = kS G T (evL G T ZjE (keepE [5,6,7] e) h) ZjF:=Zad G T rfl e h
theorem ZHd (x y : AV) (k : IntKind) : iaddrV 1 (.imm 2 [x,y]) (.int k 0) = some (.iptr [x,y] 0):=rfl
theorem ZHe (x y : AV) (k : IntKind) : iaddrV 1 (.imm 2 [x,y]) (.int k 1) = some (.iptr [x,y] 1):=rfl
theorem ZHn (h : Mem) (x y : AV) : rdAt G h 1 (.iptr [x,y] 0) = some [x]:=rfl
theorem ZHo (h : Mem) (x y : AV) : rdAt G h 1 (.iptr [x,y] 1) = some [y]:=rfl
theorem ZjR (J : Al G T g) {z y : Bool} {a b : List Nat} : run G T 106 [.imm 2 [D z a,D y b]] = some (.bool (mayL a && mayL b)):=by
 rw [Zab G T J.A.ZjR]
 have h1:=ZbL (G:=G) J z a
 have h2:=ZbL (G:=G) J y b
 cases ha : mayL a <;> cases hb : mayL b <;> (
  rw [ha] at h1
  rw [hb] at h2
  repeat' (first|simp (maxSteps:=9^7) only [seval,exC,Zly,h1,h2,Zzn,ZjE,ZHd,ZHe,ZHn,ZHo]|simp (maxSteps:=9^7) (disch:=first|with_reducible assumption|omega) only [dxB]|(simp only [kdB];split)|(simp only [kvB];split))
  all_goals rfl)
theorem Zwl {h : Heap} {z : Bool} {l : List Nat} (hl : l≠[]) (hs : l.length < 549755813888) : appV h 1 4 .nil (D z l) = some (.own h.b.length 0 l.length 1,new h l):=by
 cases l with
 | nil => exact absurd rfl hl
 | cons a l =>
  have e : sliceCells h.mem 1 (D z (a :: l)) = some ((a :: l).length,cells (a :: l)):=by
   simp [D,sliceCells,cells]
  simp only [appV,e]
  rw [if_neg (by simp),if_pos (by simp only [boundApp]; omega)]
  rfl
theorem Zth {h : Heap} {z : Bool} : appV h 1 4 .nil (D z []) = some (.nil,h):=by
 cases z <;> rfl
theorem ZfY {a b : Nat} : cmpN a b < 0↔a < b:=by
 unfold cmpN; split
 ·constructor <;> intro <;> omega
 ·split <;> constructor <;> intro <;> omega
theorem ZAq {h : Heap} (hf : FreH h) (l : List Nat) : snapG (new h l).mem 3 h.b.length 0 l.length 1 = some (D false l):=by
 have:=Zce (ZbB hf l) (n:=l.length) (Nat.le_refl _)
 rw [List.take_length] at this; exact this
theorem Zgk (J : Al G T g) {z y : Bool} {a b : Nat} (ha : mayL (dl a) = true) (hb : mayL (dl b) = true) (h0 : b≠0) :
  ∃ z1 z2,run G T 77 [D z (dl a),D y (dl b)] = some (.tup [D z1 (dl (a / b)),D z2 (dl (a % b)),.int .i64 0]):=by
 have la:=(Zbr.1 ha).1
 have lb:=(Zbr.1 hb).1
 have h1:=ZjR (G:=G) J (z:=z) (y:=y) (a:=dl a) (b:=dl b)
 rw [ha,hb,Bool.and_self] at h1
 have h2:=Zop (G:=G) J (z:=z) (y:=y) (a:=a) (b:=b) (by omega) (by omega)
 have hl0 : ¬ ((dl b).length : Int) = 0:=by
  intro hc; exact h0 (Zay.1 (by omega))
 by_cases hab : a < b
 ·have c1 : cmpN a b < 0:=ZfY.2 hab
  rw [Nat.div_eq_of_lt hab,Nat.mod_eq_of_lt hab,Zan]
  by_cases ha0 : a = 0
  ·subst ha0
   rw [Zan] at *
   refine ⟨true,true,?_⟩
   rw [Zab G T J.A.Zgk]
   clear la lb ha hb hab
   repeat' (first|simp (maxSteps:=9^7) only [seval,exC,Zcz,h1,h2,hl0,c1,Zth]|simp (maxSteps:=9^7) (disch:=first|with_reducible assumption|omega) only [dxB]|(simp only [kdB];split)|(simp only [kvB];split))
   rfl
  ·have hne : dl a≠[]:=fun hc => ha0 (Zfz.1 hc)
   refine ⟨true,false,?_⟩
   rw [Zab G T J.A.Zgk]
   clear ha hb hab
   repeat' (first|simp (maxSteps:=9^7) only [seval,exC,Zcz,h1,h2,hl0,c1 ]|simp (maxSteps:=9^7) (disch:=first|with_reducible assumption|omega) only [dxB,Zwl]|(simp only [kdB];split)|(simp only [kvB];split))
   have hsn:=ZAq (h:={ b:=[{ cs:=[D z (dl a),D y (dl b)] }],f:=fz1 (AV.bool true) [0] }) (fun c hc => absurd hc List.not_mem_nil) (dl a)
   simp only [List.length_cons,List.length_nil,Nat.zero_add] at hsn
   rw [hsn]
   rfl
 ·have c1 : ¬ cmpN a b < 0:=fun hc => hab (ZfY.1 hc)
  by_cases hb1 : (dl b).length = 1
  ·have hd0 : dl b = [b]:=by
    have e1 : b < 4294967296:=by have:=Zcu.1 (Nat.le_of_eq hb1); simpa using this
    rw [ZmU h0,Nat.mod_eq_of_lt e1,Nat.div_eq_of_lt e1,Zan]
   have e1 : b < 4294967296:=by have:=Zcu.1 (Nat.le_of_eq hb1); simpa using this
   have hr : a % b < b:=Nat.mod_lt _ (by omega)
   obtain ⟨z1,hz1⟩:=Zoq (G:=G) J (z:=z) (a:=a) (d:=b) (by omega) e1 (by omega)
   obtain ⟨z2,hz2⟩:=Zcd (G:=G) J (z:=false) (l:=[a % b]) (ZeF.2 ⟨by omega,Dg.nil⟩) (by simp)
   rw [show val [a % b] = a % b by simp [val]] at hz2
   have hz2 : run G T 94 [.imm 1 [.int .u32 ((a % b : Nat) : Int)]] = some (D z2 (dl (a % b))):=hz2
   have hdb : dg (dl b) 0 = b:=by rw [hd0]; rfl
   have hb1' : ((dl b).length : Int) = 1:=by omega
   refine ⟨z1,z2,?_⟩
   rw [Zab G T J.A.Zgk]
   clear ha hb hab hr
   repeat' (first|simp (maxSteps:=9^7) only [seval,exC,Zcz,h1,h2,hl0,c1,hb1',hdb,hz1,hz2]|simp (maxSteps:=9^7) (disch:=first|with_reducible assumption|omega) only [dxB]|(simp only [kdB];split)|(simp only [kvB];split))
  ·have hb2 : ¬ ((dl b).length : Int) = 1:=by omega
   have hb3 : ¬ (dl b).length = 0:=by omega
   obtain ⟨z1,z2,hz⟩:=Zqo (G:=G) J (z:=z) (y:=y) (a:=a) (b:=b) (by omega) (by omega) (by omega)
   refine ⟨z1,z2,?_⟩
   rw [Zab G T J.A.Zgk]
   clear ha hb hab
   repeat' (first|simp (maxSteps:=9^7) only [seval,exC,Zcz,h1,h2,hl0,c1,hb2,hz]|simp (maxSteps:=9^7) (disch:=first|with_reducible assumption|omega) only [dxB]|(simp only [kdB];split)|(simp only [kvB];split))
theorem ZDP {l : List Nat} {k s Q : Nat} (dl' : Dg l) (hk : k < l.length) (hs : s < 32) (hv : val l = Q * 2 ^ (32 * k + s + 1)) :
  dg l k ||| 2 ^ s = dg l k + 2 ^ s∧dg l k + 2 ^ s < 4294967296∧val (l.set k (dg l k + 2 ^ s)) = (2 * Q + 1) * 2 ^ (32 * k + s):=by
 have h1:=Zna dl' k
 rw [hv,pow32,show 32 * k + s + 1 = s + 1 + 32 * k by omega,Nat.pow_add,← Nat.mul_assoc,Nat.mul_div_cancel _ (Nat.two_pow_pos _)] at h1
 have e : (4294967296 : Nat) = 2 ^ (31 - s) * 2 ^ (s + 1):=by rw [← Nat.pow_add,show 31 - s + (s + 1) = 32 by omega]
 have h2 : Q * 2 ^ (s + 1) % 4294967296 = Q % 2 ^ (31 - s) * 2 ^ (s + 1):=by rw [e,Nat.mul_mod_mul_right]
 rw [h2] at h1
 have h3 : Q % 2 ^ (31 - s) < 2 ^ (31 - s):=Nat.mod_lt _ (Nat.two_pow_pos _)
 have h4 : (Q % 2 ^ (31 - s) + 1) * 2 ^ (s + 1)≤4294967296:=by rw [e]; exact Nat.mul_le_mul_right _ h3
 have h5 : 2 ^ s < 2 ^ (s + 1):=Nat.pow_lt_pow_right (by decide) (Nat.lt_succ_self s)
 refine ⟨?_,?_,?_⟩
 ·rw [h1,Nat.or_comm,ZkZ h5,Nat.add_comm]
 ·rw [h1]; rw [Nat.add_mul,Nat.one_mul] at h4; omega
 ·have h6:=Zlq (l:=l) (j:=k) (dg l k + 2 ^ s) hk
  rw [Nat.mul_add] at h6
  have h7 : val (l.set k (dg l k + 2 ^ s)) = val l + 4294967296 ^ k * 2 ^ s:=by omega
  rw [h7,hv,pow32,← Nat.pow_add,Nat.pow_succ,Nat.add_mul,Nat.one_mul,← Nat.mul_assoc,Nat.mul_comm 2 Q,Nat.mul_assoc Q 2,Nat.mul_comm 2,Nat.mul_assoc]
theorem Zzr {a i : Nat} : a / 2 ^ i = 2 * (a / 2 ^ (i + 1)) + a / 2 ^ i % 2:=by
 rw [Nat.pow_succ,← Nat.div_div_eq_div_mul]; omega
theorem ZAl {h : Heap} {b : Nat} {l : List Nat} {d : Bool} (H : h.b[b]? = some ⟨cells l,d⟩) : reachG h.mem 3 b = [b]:=by
 cases h with
 | mk bs fs => rw [rg_x]; simp only at H; rw [H,Zqt,Zqu]
def boxed (h : Heap) (r : AV) : Heap:=⟨h.b ++ [⟨[.int .u32 1],false⟩],fz1 r [h.b.length] ++ h.f⟩
theorem Holds.boxed {h : Heap} {b : Nat} {l : List Nat} (H : Holds h b l) (r : AV) : Holds (boxed h r) b l:=by
 refine ⟨by simp only [Cv.boxed]; rw [List.getElem?_append_left H.lt]; exact H.at_,?_⟩
 have h1:=H.lt
 have h2:=H.fre
 rw [Bool.eq_false_iff] at h2 ⊢
 intro hc
 rcases List.mem_append.1 (List.contains_iff_mem.1 hc) with h3 | h3
 ·unfold fz1 at h3
  split at h3
  ·have:=List.mem_singleton.1 h3; omega
  ·exact absurd h3 List.not_mem_nil
 ·exact h2 (List.contains_iff_mem.2 h3)
theorem Zvx (h : Heap) : snapG (Heap.mem ⟨h.b ++ [⟨[.int .u32 1],false⟩],h.f⟩) 3 h.b.length 0 1 1 = some (D false [1]):=by
 have e : (Heap.mem ⟨h.b ++ [⟨[.int .u32 1],false⟩],h.f⟩) h.b.length = some ⟨cells [1],false⟩:=by
  simp [Heap.mem,cells]
 exact Zml (d:=2) (l:=[1]) (by rw [rdBlk,e]; rfl) rfl
theorem Zsj (h : Heap) : reachG (Heap.mem ⟨h.b ++ [⟨[.int .u32 1],false⟩],h.f⟩) 3 h.b.length = [h.b.length] :=
 ZAl (h:=⟨h.b ++ [⟨[.int .u32 1],false⟩],h.f⟩) (l:=[1]) (d:=false) (by simp [cells])
theorem ZlS (J : Al G T g) {a b bq N : Nat} {z y : Bool} (ha : (dl a).length < 8589934592) (hb : 0 < b) (hN : N = (dl a).length) (hbl : (dl b).length < 8589934592) : ∀ (j : Nat) (h : Heap) (l : List Nat) (zr : Bool) (Q R : Nat),
  j≤32 * N→Holds h bq l→Dg l→l.length = N→R < b→a / 2 ^ j = Q * b + R→val l = Q * 2 ^ j →
  Post (evL G T ZcN [(0,D z (dl a)),(1,D y (dl b)),(6,.own bq 0 N 1),(8,D zr (dl R)),(10,.int .i64 ((j : Int) - 1))] h) fun r =>
   ∃ e h' l' zr' R',r = (.exit 0,(0,D z (dl a)) :: (1,D y (dl b)) :: (6,.own bq 0 N 1) :: (8,D zr' (dl R')) :: e,h')∧Holds h' bq l'∧Dg l'∧l'.length = N∧R' < b∧a = val l' * b + R'
 | 0,h,l,zr,Q,R,hj,H,dL,hl,hR,he,hv => by
  rw [Zad G T (c:=ZcN) rfl]
  have c1 : ¬ (0 : Int)≤((0 : Nat) : Int) - 1:=by omega
  repeat (first | (simp (maxSteps:=9^7) only [seval,evB,Zbv,c1]) | (simp (disch:=omega) only [dsB]))
  rw [Nat.pow_zero,Nat.div_one] at he
  rw [Nat.pow_zero,Nat.mul_one] at hv
  exact Post.some ⟨_,_,_,_,_,rfl,H,dL,hl,hR,by rw [hv]; exact he⟩
 | i + 1,h,l,zr,Q,R,hj,H,dL,hl,hR,he,hv => by
  rw [Zad G T (c:=ZcN) rfl]
  have e1 : ((i + 1 : Nat) : Int) - 1 = (i : Int):=by omega
  have c1 : (0 : Int)≤(i : Int):=by omega
  have lR : (dl R).length < 8589934592:=by
   have h1:=ZaE (Nat.le_of_lt hR)
   have h2:=Zaa R
   have h3:=Zaa b
   omega
  obtain ⟨z1,u1⟩:=Zjk (G:=G) J (z:=zr) (a:=R) (n:=1) (by omega) (by decide)
  rw [Nat.pow_one,show ((1 : Nat) : Int) = 1 from rfl] at u1
  have u2:=ZlU (G:=G) J (z:=z) (a:=a) (i:=i) (by omega) (by omega)
  have hbd:=Zzr (a:=a) (i:=i)
  have hbit : a / 2 ^ i % 2 < 2:=Nat.mod_lt _ (by decide)
  rw [he] at hbd
  generalize a / 2 ^ i % 2 = t at *
  have lR2 : (dl (R * 2)).length < 17179869184:=by
   have h1:=ZaE (a:=R * 2) (b:=b * 2 ^ 1) (by omega)
   rw [Zaq (by omega)] at h1
   have h2:=Zaa (R * 2)
   have h3:=Zaa b
   omega
  have lR3 : (dl (R * 2 + 1)).length < 17179869184:=by
   have h1:=ZaE (a:=R * 2 + 1) (b:=b * 2 ^ 1) (by omega)
   rw [Zaq (by omega)] at h1
   have h2:=Zaa (R * 2 + 1)
   have h3:=Zaa b
   omega
  obtain ⟨z2,u3⟩:=ZjU (G:=G) J (z:=z1) (y:=false) (a:=R * 2) (b:=1) (by omega) (by rw [ZqZ]; decide)
  rw [ZqZ] at u3
  have hi32 : i / 32 < l.length:=by omega
  have hii : 32 * (i / 32) + i % 32 = i:=by omega
  obtain ⟨s1,s2,s3⟩:=ZDP (s:=i % 32) (Q:=Q) dL hi32 (by omega) (by rw [hii]; exact hv)
  rw [hii] at s3
  have w1 : (i : Int).tdiv 32 = ((i / 32 : Nat) : Int):=rfl
  have w2 : (i : Int).tmod 32 = ((i % 32 : Nat) : Int):=rfl
  have w3 : min (i % 32) 32 = i % 32:=by omega
  have p31 : 2 ^ (i % 32) < 4294967296:=Nat.lt_of_lt_of_le (Nat.pow_lt_pow_right (a:=2) (by decide) (show i % 32 < 32 by omega)) (by decide)
  have w4 : (1 : Int) * 2 ^ (i % 32) % 4294967296 = ((2 ^ (i % 32) : Nat) : Int):=by rw [Int.one_mul,ZaZ]; exact Int.emod_eq_of_lt (Int.natCast_nonneg _) (Int.ofNat_lt.2 p31)
  have w5:=or32 (dL.dg (i / 32)) p31
  rw [s1] at w5
  rw [e1]
  by_cases ht : t = 1
  ·subst ht
   have c2 : (((1 : Nat) : Int)) = 1:=rfl
   have HB:=H.boxed (D z2 (dl (R * 2 + 1)))
   have cm:=ZjV (G:=G) J (z:=z2) (y:=y) (a:=R * 2 + 1) (b:=b) (by omega) (by omega)
   have sn:=Zvx h
   have rc:=Zsj h
   by_cases c3 : R * 2 + 1 < b
   ·have c4 : ¬ 0≤cmpN (R * 2 + 1) b:=by have:=ZfY.2 c3; omega
    have fin:=ZlS J (z:=z) (y:=y) ha hb hN hbl i _ l z2 (2 * Q) (R * 2 + 1) (by omega) HB dL hl c3 (by rw [hbd,Nat.mul_add,← Nat.mul_assoc]; omega) (by rw [hv,Nat.pow_succ,Nat.mul_comm 2 Q,Nat.mul_assoc,Nat.mul_comm 2])
    clear he hv hbd s1 s2 s3
    simp only [boxed] at fin
    repeat (first | (simp (maxSteps:=9^7) only [seval,evB,Zbv,c1,u1,u2,c2,sn,u3,rc,ZnU,cm,c4]) | (simp (disch:=omega) only [dsB]))
    exact fin
   ·have c4 : 0≤cmpN (R * 2 + 1) b:=by
     have : ¬ cmpN (R * 2 + 1) b < 0:=fun hh => c3 (ZfY.1 hh)
     omega
    obtain ⟨z3,u4⟩:=Zih (G:=G) J (z:=z2) (y:=y) (a:=R * 2 + 1) (b:=b) (by omega) (by omega)
    have st:=ZcE HB (i:=i / 32) (x:=dg l (i / 32) + 2 ^ (i % 32)) hi32
    have ld:=Zht (G:=G) HB hi32
    have fin:=ZlS J (z:=z) (y:=y) ha hb hN hbl i _ _ z3 (2 * Q + 1) (R * 2 + 1 - b) (by omega) (HB.put (l.set (i / 32) (dg l (i / 32) + 2 ^ (i % 32)))) (ZdO dL s2) (by rw [List.length_set]; exact hl) (by omega) (by
     rw [hbd,Nat.add_mul,Nat.one_mul,Nat.mul_add,← Nat.mul_assoc]; omega) s3
    clear he hv hbd s1 s2 s3
    simp only [boxed] at fin st ld
    repeat (first | (simp (maxSteps:=9^7) only [seval,evB,Zbv,c1,u1,u2,c2,sn,u3,rc,ZnU,cm,c4,u4,w1,w2,w3,w4,w5,st,ld]) | (simp (disch:=omega) only [dsB]))
    exact fin
  ·obtain rfl : t = 0:=by omega
   have c2 : ¬ (((0 : Nat) : Int)) = 1:=by decide
   have cm:=ZjV (G:=G) J (z:=z1) (y:=y) (a:=R * 2) (b:=b) (by omega) (by omega)
   by_cases c3 : R * 2 < b
   ·have c4 : ¬ 0≤cmpN (R * 2) b:=by have:=ZfY.2 c3; omega
    have fin:=ZlS J (z:=z) (y:=y) ha hb hN hbl i _ l z1 (2 * Q) (R * 2) (by omega) H dL hl c3 (by rw [hbd,Nat.mul_add,← Nat.mul_assoc]; omega) (by rw [hv,Nat.pow_succ,Nat.mul_comm 2 Q,Nat.mul_assoc,Nat.mul_comm 2])
    clear he hv hbd s1 s2 s3
    repeat (first | (simp (maxSteps:=9^7) only [seval,evB,Zbv,c1,u1,u2,c2,cm,c4]) | (simp (disch:=omega) only [dsB]))
    exact fin
   ·have c4 : 0≤cmpN (R * 2) b:=by
     have : ¬ cmpN (R * 2) b < 0:=fun hh => c3 (ZfY.1 hh)
     omega
    obtain ⟨z3,u4⟩:=Zih (G:=G) J (z:=z1) (y:=y) (a:=R * 2) (b:=b) (by omega) (by omega)
    have st:=ZcE H (i:=i / 32) (x:=dg l (i / 32) + 2 ^ (i % 32)) hi32
    have ld:=Zht (G:=G) H hi32
    have fin:=ZlS J (z:=z) (y:=y) ha hb hN hbl i _ _ z3 (2 * Q + 1) (R * 2 - b) (by omega) (H.put (l.set (i / 32) (dg l (i / 32) + 2 ^ (i % 32)))) (ZdO dL s2) (by rw [List.length_set]; exact hl) (by omega) (by
     rw [hbd,Nat.add_mul,Nat.one_mul,Nat.mul_add,← Nat.mul_assoc]; omega) s3
    clear he hv hbd s1 s2 s3
    repeat (first | (simp (maxSteps:=9^7) only [seval,evB,Zbv,c1,u1,u2,c2,cm,c4,u4,w1,w2,w3,w4,w5,st,ld]) | (simp (disch:=omega) only [dsB]))
    exact fin
theorem Zhv (J : Al G T g) {a b : Nat} {z y : Bool} (ha : (dl a).length < 8589934592) (hb : 0 < b) (hbl : (dl b).length < 8589934592) :
  ∃ z1 z2,run G T 79 [D z (dl a),D y (dl b)] = some (.tup [D z1 (dl (a / b)),D z2 (dl (a % b))]):=by
 by_cases hb1 : (dl b).length = 1
 ·have e1 : b < 4294967296:=by have:=Zcu.1 (Nat.le_of_eq hb1); simpa using this
  have hd0 : dl b = [b]:=by rw [ZmU (by omega),Nat.mod_eq_of_lt e1,Nat.div_eq_of_lt e1,Zan]
  obtain ⟨z1,z2,hz⟩:=Zjl (G:=G) J (z:=z) (a:=a) (d:=b) hb e1 (by omega)
  have hdb : dg (dl b) 0 = b:=by rw [hd0]; rfl
  have hb1' : ((dl b).length : Int) = 1:=by omega
  refine ⟨z1,z2,?_⟩
  rw [Zab G T J.B.Zhv]
  clear ha hbl
  repeat' (first|simp (maxSteps:=9^7) only [seval,exC,Zdi,hb1',hdb,hz]|simp (maxSteps:=9^7) (disch:=first|with_reducible assumption|omega) only [dxB]|(simp only [kdB];split)|(simp only [kvB];split))
 ·have hb2 : ¬ ((dl b).length : Int) = 1:=by omega
  have l1:=ZcD (G:=G) J (z:=z) (a:=a) (by omega)
  have l2:=ZcD (G:=G) J (z:=y) (a:=b) (by omega)
  obtain ⟨L,hL⟩ : ∃ L,L = blen a + 1 - blen b:=⟨_,rfl⟩
  have hla:=Zaa a
  have hlb:=Zaa b
  have hbp:=ZcG (n:=b) (by omega)
  have ww1 : IntKind.i64.wrap ((blen a : Int) - (blen b : Int)) = (blen a : Int) - (blen b : Int):=Zaf (by omega)
  have ww2 : IntKind.i64.wrap ((blen a : Int) - (blen b : Int) + 1) = (blen a : Int) - (blen b : Int) + 1:=Zaf (by omega)
  have ww3 : IntKind.i64.wrap ((L : Int) - 1) = (L : Int) - 1:=Zaf (by omega)
  have e1 : max (0 : Int) ((blen a : Int) - (blen b : Int) + 1) = (L : Int):=by omega
  obtain ⟨z3,hd⟩:=Zgl (G:=G) J (z:=z) (a:=a) (n:=L) (by omega) (by omega)
  have hR : a / 2 ^ L < b:=by
   have h1:=Zam a L
   have h2:=ZcG (n:=b) (by omega)
   have h3 : a / 2 ^ L < 2 ^ (blen b - 1):=Zae.1 (by omega)
   exact Nat.lt_of_lt_of_le h3 (ZdC (by omega))
  have H0:=ZbB FreH.nil (List.replicate (dl a).length 0)
  obtain ⟨_,hr,e,h',l',zr',R',rfl,H,dL,hl,hR',he⟩:=ZlS (G:=G) (z:=z) (y:=y) (a:=a) (b:=b) (N:=(dl a).length) J (by omega) hb rfl (by omega) L (new .nil (List.replicate (dl a).length 0)) (List.replicate (dl a).length 0) z3 0 (a / 2 ^ L) (by omega) H0 (Zjv _) (List.length_replicate ..) hR (by rw [Nat.zero_mul,Nat.zero_add]) (by rw [ZqK,Nat.zero_mul])
  obtain ⟨k1,k2⟩:=ZjJ hR' he
  have hsn:=Zce H (n:=(dl a).length) (by omega)
  rw [← hl,List.take_length,hl] at hsn
  obtain ⟨z1,hz1⟩:=Zcm (G:=G) J (z:=false) dL (by omega)
  refine ⟨z1,zr',?_⟩
  rw [← k1,← k2,Zab G T J.B.Zhv]
  simp only [nilb,List.length_nil] at hr hsn
  clear hR hR' he k1 k2 hL hla hlb hbp
  repeat' (first|simp (maxSteps:=9^7) only [seval,exC,Zdi,hb2,l1,l2,e1,hd,hr,hsn,hz1,Zli,ww1,ww2,ww3]|simp (maxSteps:=9^7) (disch:=first|with_reducible assumption|omega) only [dxB]|(simp only [kdB];split)|(simp only [kvB];split))
theorem ZmC (J : Al G T g) {n : Nat} (h : 1≤n∧n≤8192) : run G T 75 [.int .i64 (n : Int)] = some (.int .i64 0):=by
 rw [Zab G T J.C.ZmC]
 have c1 : ¬ (n : Int) < 1:=by omega
 have c2 : ¬ (8192 : Int) < (n : Int):=by omega
 repeat' (first|simp (maxSteps:=9^7) only [seval,exC,ZgQ,c1,c2]|simp (maxSteps:=9^7) (disch:=first|with_reducible assumption|omega) only [dxB]|(simp only [kdB];split)|(simp only [kvB];split))
theorem ZlX (J : Al G T g) {z : Bool} {d : Dy} {k s : Nat} (hs : (dl d.m).length < 17179869183) (he : -274877906944 < d.e∧d.e < 274877906944) (hk : blen d.m = k + s) (h0 : 0 < s) (hkk : k < 8192) (hb : blen d.m < 274877906944) :
  ∃ z',run G T 80 [DyA z d,.int .i64 (k : Int)] = some (.tup [DyA z' (mkD d.n (d.m / 2 ^ s) (d.e + s)),.bool (!decide (d.m % 2 ^ s = 0))]):=by
 obtain ⟨n,m,e⟩:=d
 simp only at *
 have l1:=ZcD (G:=G) J (z:=z) (a:=m) (by omega)
 obtain ⟨z1,h1⟩:=Zgl (G:=G) J (z:=z) (a:=m) (n:=s) (by omega) (by omega)
 have hlen : (dl (m / 2 ^ s)).length < 17179869184:=by
  have h1:=ZaE (Nat.div_le_self m (2 ^ s))
  have h2:=Zaa (m / 2 ^ s)
  omega
 obtain ⟨z2,h2⟩:=Zbg (G:=G) J (n:=n) (z:=z1) (a:=m / 2 ^ s) (e:=e + s) hlen (by omega)
 have w1 : ((blen m : Nat) : Int) - (k : Int) = (s : Int):=by omega
 have w2 : ¬ (s : Int)≤0:=by omega
 have w3 : IntKind.i64.wrap (e + (s : Int)) = e + s:=Zaf (by omega)
 refine ⟨z2,?_⟩
 rw [Zab G T J.C.ZlX]
 clear hlen hk
 simp only [DyA,A3] at *
 repeat' (first|simp (maxSteps:=9^7) only [seval,exC,Zgw,l1,w1,w2,w3,h1,h2]|simp (maxSteps:=9^7) (disch:=first|with_reducible assumption|omega) only [dxB]|(simp only [kdB];split)|(simp only [kvB];split))
theorem ZnL (J : Al G T g) {z n more : Bool} {q k s : Nat} {e : Int} (hm : mayL (dl q) = true) (hk : blen q = k + s) (h0 : 0 < s) (he : -16000000 < e∧e < 16000000) :
  ∃ z',run G T 78 [.bool n,D z (dl q),.int .i64 e,.bool more,.int .i64 (k : Int)] = some (.tup [DyA z' (mkD n (q / 2 ^ s) (e + s)),.bool (!decide (q % 2 ^ s = 0) || more),.int .i64 0]):=by
 have hb:=Zhu hm
 have l1:=Zjh (G:=G) J (z:=z) hm
 obtain ⟨z1,h1⟩:=ZhO (G:=G) J (z:=z) (a:=q) (n:=s) hm h0 (by omega)
 have hbd:=Zam q s
 have hm2 : mayL (dl (q / 2 ^ s)) = true:=Zas (by omega)
 have htz : tz (q / 2 ^ s)≤131072∨q / 2 ^ s = 0:=by
  by_cases hz : q / 2 ^ s = 0
  ·exact Or.inr hz
  ·left; have:=ZgK hz; omega
 obtain ⟨z2,h2⟩:=ZbT (G:=G) J (n:=n) (z:=z1) (a:=q / 2 ^ s) (e:=e + s) hm2 (by
  rcases htz with h | h
  ·right; omega
  ·left; exact h) (by omega)
 have w1 : max (0 : Int) ((blen q : Int) - (k : Int)) = (s : Int):=by omega
 have w2 : (0 : Int) - (s : Int) = -(s : Int):=by omega
 have w3 : IntKind.i64.wrap (e + (s : Int)) = e + s:=Zaf (by omega)
 have w4 : IntKind.i64.wrap ((blen q : Int) - (k : Int)) = (blen q : Int) - (k : Int):=Zaf (by omega)
 have w5 : IntKind.i64.wrap (-(s : Int)) = -(s : Int):=Zaf (by omega)
 refine ⟨z2,?_⟩
 rw [Zab G T J.C.ZnL]
 clear hm2 htz hbd hk hb hm
 simp only [DyA,A3] at *
 generalize decide (q % 2 ^ s = 0) = o at *
 cases o <;> cases more <;> repeat' (first|simp (maxSteps:=9^7) only [seval,exC,ZiB,l1,w1,w2,w3,w4,w5,Zli,h1,h2]|simp (maxSteps:=9^7) (disch:=first|with_reducible assumption|omega) only [dxB]|(simp only [kdB];split)|(simp only [kvB];split))
def quoN (k a b : Nat) : Nat:=k + 1 + blen b - blen a
theorem Zjj {k a b : Nat} (ha : a≠0) (hb : b≠0) : k < blen (a * 2 ^ quoN k a b / b):=by
 rw [ZaP]
 have h1 : 2 ^ k * b≤a * 2 ^ quoN k a b:=by
  have e1:=ZbK b
  have e2:=ZdC ha
  have e3:=ZcG ha
  calc 2 ^ k * b≤2 ^ k * 2 ^ blen b:=Nat.mul_le_mul_left _ (Nat.le_of_lt e1)
   _ = 2 ^ (k + blen b):=(Nat.pow_add ..).symm
   _≤2 ^ (blen a - 1 + quoN k a b):=Nat.pow_le_pow_right (by decide) (by unfold quoN; omega)
   _ = 2 ^ (blen a - 1) * 2 ^ quoN k a b:=Nat.pow_add ..
   _≤a * 2 ^ quoN k a b:=Nat.mul_le_mul_right _ e2
 exact (Nat.le_div_iff_mul_le (by omega)).2 h1
theorem ZDd {Q t S : Nat} (h : t≤S) : Q / 2 ^ t / 2 ^ (S - t) = Q / 2 ^ S:=by
 rw [Nat.div_div_eq_div_mul,← Nat.pow_add,show t + (S - t) = S by omega]
theorem ZDA {Q t S : Nat} (h : t≤S) (ht : Q % 2 ^ t = 0) : Q / 2 ^ t % 2 ^ (S - t) = 0↔Q % 2 ^ S = 0:=by
 have:=Zlj Q t (S - t)
 rw [show t + (S - t) = S by omega] at this
 rw [this]; exact ⟨fun h2 => ⟨ht,h2⟩,fun h2 => h2.2⟩
theorem ZDy {n : Bool} {Q t S : Nat} {e : Int} (h : Q≠0) (h2 : Q / 2 ^ t≠0) (ht : Q % 2 ^ t = 0) : mkD n (Q / 2 ^ t) (e + t) = mkD n Q e:=by
 have e1 : Q = Q / 2 ^ t * 2 ^ t:=by
  have:=Nat.div_add_mod Q (2 ^ t)
  rw [ht,Nat.add_zero,Nat.mul_comm] at this; exact this.symm
 have e2 : tz Q = tz (Q / 2 ^ t) + t:=by
  conv => lhs; rw [e1]
  exact ZCq h2 t
 rw [Zaj h,Zaj h2,e2,Nat.div_div_eq_div_mul,← Nat.pow_add,Nat.add_comm t]
 congr 1; omega
theorem ZrA (J : Al G T g) {z : Bool} {d : Dy} {k : Nat} (hs : (dl d.m).length < 17179869183) (hk : blen d.m≤k) (hkk : k < 8192) :
  run G T 80 [DyA z d,.int .i64 (k : Int)] = some (.tup [DyA z d,.bool false]):=by
 obtain ⟨n,m,e⟩:=d
 simp only at *
 have l1:=ZcD (G:=G) J (z:=z) (a:=m) (by omega)
 have w2 : ((blen m : Nat) : Int) - (k : Int)≤0:=by omega
 have w4 : IntKind.i64.wrap ((blen m : Int) - (k : Int)) = (blen m : Int) - (k : Int):=Zaf (by omega)
 rw [Zab G T J.C.ZlX]
 clear hs hk
 simp only [DyA,A3] at *
 repeat' (first|simp (maxSteps:=9^7) only [seval,exC,Zgw,l1,w2,w4]|simp (maxSteps:=9^7) (disch:=first|with_reducible assumption|omega) only [dxB]|(simp only [kdB];split)|(simp only [kvB];split))
theorem ZzN (J : Al G T g) {n z : Bool} {Q k S : Nat} {e : Int} (hl : (dl Q).length < 1048576) (hS : blen Q = k + S) (h0 : 0 < S) (hk0 : 0 < k) (hk : k < 8192) (he : -68719476736 < e∧e < 68719476736) :
  ∃ z',run G T 80 [DyA z (mkD n Q e),.int .i64 (k : Int)] = some (.tup [DyA z' (mkD n (Q / 2 ^ S) (e + S)),.bool (!decide (Q % 2 ^ S = 0))]):=by
 have hQ : Q≠0:=by rintro rfl; rw [Zak] at hS; omega
 have hl2:=Zaa Q
 have t1:=(Zdd hQ).1
 have tm : Q % 2 ^ tz Q = 0:=by
  have:=Nat.mul_mod_left (Q / 2 ^ tz Q) (2 ^ tz Q)
  rw [← t1] at this; exact this
 have tb:=ZgK hQ
 have bd:=Zam Q (tz Q)
 have ld:=Zaa (Q / 2 ^ tz Q)
 have bS:=Zam Q S
 have hQS : Q / 2 ^ S≠0:=by intro hc; rw [hc,Zak] at bS; omega
 rcases Nat.lt_or_ge (tz Q) S with h | h
 ·obtain ⟨z',hc⟩:=ZlX (G:=G) J (z:=z) (d:=mkD n Q e) (k:=k) (s:=S - tz Q) (by rw [Zaj hQ]; simp only; omega) (by rw [Zaj hQ]; simp only; omega) (by rw [Zaj hQ]; simp only; omega) (by omega) hk (by rw [Zaj hQ]; simp only; omega)
  refine ⟨z',?_⟩
  rw [hc,Zaj hQ]
  simp only
  rw [ZDd (Nat.le_of_lt h),show e + (tz Q : Int) + ((S - tz Q : Nat) : Int) = e + S by omega]
  congr 4
  simp only [ZDA (Nat.le_of_lt h) tm]
 ·have hm : Q % 2 ^ S = 0:=by
   have e1:=Zlj Q S (tz Q - S)
   rw [show S + (tz Q - S) = tz Q by omega] at e1
   exact (e1.1 tm).1
  have hc:=ZrA (G:=G) J (z:=z) (d:=mkD n Q e) (k:=k) (by rw [Zaj hQ]; simp only; omega) (by rw [Zaj hQ]; simp only; omega) hk
  refine ⟨z,?_⟩
  rw [hc,ZDy (t:=S) (S:=0) hQ hQS hm,hm]; rfl
theorem Zoy (J : Al G T g) {z y : Bool} {a b : Dy} {k S : Nat} (ha : a.m≠0) (hb : b.m≠0) (la : blen a.m < 1048576) (lb : blen b.m < 1048576) (hk0 : 0 < k) (hk : k < 8192)
  (ea : -17179869184 < a.e∧a.e < 17179869184) (eb : -17179869184 < b.e∧b.e < 17179869184) (hS : blen (a.m * 2 ^ quoN k a.m b.m / b.m) = k + S) :
  ∃ z',run G T 41 [DyA z a,DyA y b,.int .i64 (k : Int)] = some (.tup [DyA z' (mkD (a.n != b.n) (a.m * 2 ^ quoN k a.m b.m / b.m / 2 ^ S) (a.e - b.e - (quoN k a.m b.m : Nat) + S)),
   .bool (!decide (a.m * 2 ^ quoN k a.m b.m / b.m % 2 ^ S = 0) || !decide (a.m * 2 ^ quoN k a.m b.m % b.m = 0))]):=by
 have hqb:=Zjj (k:=k) ha hb
 obtain ⟨n,m,e⟩:=a
 obtain ⟨n',m',e'⟩:=b
 simp only at *
 have d1:=Zaa m
 have d2:=Zaa m'
 have l1:=ZcD (G:=G) J (z:=z) (a:=m) (by omega)
 have l2:=ZcD (G:=G) J (z:=y) (a:=m') (by omega)
 have hN2 : quoN k m m' = k + 1 + blen m' - blen m:=rfl
 generalize quoN k m m' = N at *
 obtain ⟨z1,h1⟩:=Zjk (G:=G) J (z:=z) (a:=m) (n:=N) (by omega) (by omega)
 have bm:=Zaq ha N
 have d3:=Zaa (m * 2 ^ N)
 obtain ⟨z2,z3,h2⟩:=Zhv (G:=G) J (z:=z1) (y:=y) (a:=m * 2 ^ N) (b:=m') (by omega) (by omega) (by omega)
 have bq:=ZaE (Nat.div_le_self (m * 2 ^ N) m')
 have d4:=Zaa (m * 2 ^ N / m')
 have hrl : decide ((0 : Int) < ((dl (m * 2 ^ N % m')).length : Int)) = !decide (m * 2 ^ N % m' = 0):=by
  rw [← decide_not]; refine decide_eq_decide.2 ?_
  rw [← Zay]; omega
 generalize m * 2 ^ N / m' = Q at *
 generalize m * 2 ^ N % m' = R at *
 obtain ⟨z4,h3⟩:=Zbg (G:=G) J (n:=n != n') (z:=z2) (a:=Q) (e:=e - e' - N) (by omega) (by omega)
 obtain ⟨z5,h4⟩:=ZzN (G:=G) J (n:=n != n') (z:=z4) (Q:=Q) (k:=k) (S:=S) (e:=e - e' - N) (by omega) hS (by omega) hk0 hk (by omega)
 have c1 : ¬ ((dl m).length : Int) = 0:=fun hc => ha (Zay.1 (by omega))
 refine ⟨z5,?_⟩
 have hne : (n != n') = !decide (n = n'):=by cases n <;> cases n' <;> rfl
 rw [hne] at h3 h4 ⊢
 rw [Zab G T J.C.Zoy]
 simp only [DyA,A3] at *
 have wa : IntKind.i64.wrap ((k : Int) + 1) = (k : Int) + 1:=Zaf (by omega)
 have wb : IntKind.i64.wrap ((k : Int) + 1 + (blen m' : Int)) = (k : Int) + 1 + (blen m' : Int):=Zaf (by omega)
 have wc : IntKind.i64.wrap ((k : Int) + 1 + (blen m' : Int) - (blen m : Int)) = (k : Int) + 1 + (blen m' : Int) - (blen m : Int):=Zaf (by omega)
 have wd : IntKind.i64.wrap (e - e') = e - e':=Zaf (by omega)
 have we : IntKind.i64.wrap (e - e' - (N : Int)) = e - e' - N:=Zaf (by omega)
 have hN3 : ((k : Int) + 1 + (blen m' : Int) - (blen m : Int) < 0∧N = 0)∨(¬ ((k : Int) + 1 + (blen m' : Int) - (blen m : Int) < 0)∧(k : Int) + 1 + (blen m' : Int) - (blen m : Int) = N):=by omega
 clear d1 d2 d3 d4 bm bq hqb hS hN2
 generalize decide (Q % 2 ^ S = 0) = o at *
 rcases hN3 with ⟨c3,rfl⟩ | ⟨c3,wN⟩
 ·simp only [cast0,Nat.pow_zero,Nat.mul_one] at h1 h2 we h3 h4 ⊢
  cases o <;> (repeat' (first|simp (maxSteps:=9^7) only [seval,exC,Zgz,l1,l2,c1,c3,wa,wb,wc,wd,we,h1,h2,h3,h4,hrl]|simp (maxSteps:=9^7) (disch:=first|with_reducible assumption|omega) only [dxB]|(simp only [kdB];split)|(simp only [kvB];split)); try rfl)
 ·have c4 : ¬ (N : Int) < 0:=by omega
  rw [wN] at wc
  cases o <;> (repeat' (first|simp (maxSteps:=9^7) only [seval,exC,Zgz,l1,l2,c1,c4,wN,wa,wb,wc,wd,we,h1,h2,h3,h4,hrl]|simp (maxSteps:=9^7) (disch:=first|with_reducible assumption|omega) only [dxB]|(simp only [kdB];split)|(simp only [kvB];split)); try rfl)
theorem ZwI (e : Env) (h : Heap) : evL G T ZhF e h = kS G T (evL G T ZhE (keepE [5,6,7] e) h) ZhF:=Zad G T rfl e h
theorem ZjM (J : Al G T g) {n z n' z' : Bool} {l l' : List Nat} (hd : Dg l) (hd' : Dg l') {e e' : Int} :
  run G T 74 [.imm 2 [.bool n,D z l,.int .i64 e,.bool n',D z' l',.int .i64 e']] = some (.bool (mayD n l e && mayD n' l' e')):=by
 rw [Zab G T J.C.ZjM]
 have h2:=Zfm J (n:=n) (z:=z) hd (e:=e)
 have h3:=Zfm J (n:=n') (z:=z') hd' (e:=e')
 simp only [A3] at *
 cases hm : mayD n l e <;> cases hm' : mayD n' l' e' <;> (
  rw [hm] at h2
  rw [hm'] at h3
  repeat' (first|simp (maxSteps:=9^7) only [seval,exC,Ziz,h2,h3,ZwI,ZhE,iad20,iad21,ZGh]|simp (maxSteps:=9^7) (disch:=first|with_reducible assumption|omega) only [dxB]|(simp only [kdB];split)|(simp only [kvB];split))
  all_goals rfl)
theorem ZpT (J : Al G T g) {z y : Bool} {a b : Dy} {k S : Nat} (da : mayD a.n (dl a.m) a.e = true) (db : mayD b.n (dl b.m) b.e = true)
  (ha : a.m≠0) (hb : b.m≠0) (hk : 1≤k∧k≤8192) (hw : quoN k a.m b.m + blen a.m≤131072) (ea : -4000000 < a.e∧a.e < 4000000) (eb : -4000000 < b.e∧b.e < 4000000)
  (hS : blen (a.m * 2 ^ quoN k a.m b.m / b.m) = k + S) :
  ∃ z',run G T 40 [DyA z a,DyA y b,.int .i64 (k : Int)] = some (.tup [DyA z' (mkD (a.n != b.n) (a.m * 2 ^ quoN k a.m b.m / b.m / 2 ^ S) (a.e - b.e - (quoN k a.m b.m : Nat) + S)),
   .bool (!decide (a.m * 2 ^ quoN k a.m b.m / b.m % 2 ^ S = 0) || !decide (a.m * 2 ^ quoN k a.m b.m % b.m = 0)),.int .i64 0]):=by
 have hqb:=Zjj (k:=k) ha hb
 have ma:=(Zgj da).1
 have mb:=(Zgj db).1
 obtain ⟨n,m,e⟩:=a
 obtain ⟨n',m',e'⟩:=b
 simp only at *
 have b0:=ZjM J (n:=n) (z:=z) (n':=n') (z':=y) (ZaA m) (ZaA m') (e:=e) (e':=e')
 rw [da,db,Bool.and_self] at b0
 have a0:=ZmC J hk
 have l1:=Zjh J (z:=z) ma
 have l2:=Zjh J (z:=y) mb
 have bm:=Zhu ma
 have bm':=Zhu mb
 have hN2 : quoN k m m' = k + 1 + blen m' - blen m:=rfl
 generalize quoN k m m' = N at *
 obtain ⟨z1,h1⟩:=ZfA J (z:=z) (a:=m) (n:=N) ma (Or.inr hw) (by omega)
 have bN:=Zaq ha N
 have mN : mayL (dl (m * 2 ^ N)) = true:=Zas (by omega)
 obtain ⟨z2,z3,h2⟩:=Zgk J (z:=z1) (y:=y) (a:=m * 2 ^ N) (b:=m') mN mb hb
 have bq:=ZaE (Nat.div_le_self (m * 2 ^ N) m')
 have mq : mayL (dl (m * 2 ^ N / m')) = true:=Zas (by omega)
 have hrl : decide ((0 : Int) < ((dl (m * 2 ^ N % m')).length : Int)) = !decide (m * 2 ^ N % m' = 0):=by
  rw [← decide_not]; refine decide_eq_decide.2 ?_
  rw [← Zay]; omega
 generalize m * 2 ^ N / m' = Q at *
 generalize m * 2 ^ N % m' = R at *
 obtain ⟨z5,h4⟩:=ZnL J (n:=n != n') (z:=z2) (more:=!decide (R = 0)) (q:=Q) (k:=k) (s:=S) (e:=e - e' - N) mq hS (by omega) (by omega)
 have c1 : ¬ ((dl m).length : Int) = 0:=fun hc => ha (Zay.1 (by omega))
 have c2 : ¬ ((dl m').length : Int) = 0:=fun hc => hb (Zay.1 (by omega))
 refine ⟨z5,?_⟩
 have hne : (n != n') = !decide (n = n'):=by cases n <;> cases n' <;> rfl
 rw [hne] at h4 ⊢
 rw [Zab G T J.C.ZpT]
 simp only [DyA,A3] at *
 have c3 : ¬ (k : Int) < 1:=by omega
 have wa : IntKind.i64.wrap ((k : Int) + 1) = (k : Int) + 1:=Zaf (by omega)
 have wb : IntKind.i64.wrap ((k : Int) + 1 + (blen m' : Int)) = (k : Int) + 1 + (blen m' : Int):=Zaf (by omega)
 have wc : IntKind.i64.wrap ((k : Int) + 1 + (blen m' : Int) - (blen m : Int)) = (k : Int) + 1 + (blen m' : Int) - (blen m : Int):=Zaf (by omega)
 have wd : IntKind.i64.wrap (e - e') = e - e':=Zaf (by omega)
 have we : IntKind.i64.wrap (e - e' - (N : Int)) = e - e' - N:=Zaf (by omega)
 have wm : max (0 : Int) ((k : Int) + 1 + (blen m' : Int) - (blen m : Int)) = N:=by omega
 have wf : IntKind.i64.wrap (131072 - (blen m : Int)) = 131072 - (blen m : Int):=Zaf (by omega)
 have c4 : ¬ (131072 - (blen m : Int) < (N : Int)):=by omega
 clear bN mN bq mq hqb hS hN2 da db ma mb hw
 generalize decide (Q % 2 ^ S = 0) = o at *
 cases o <;> (repeat' (first|simp (maxSteps:=9^7) only [seval,exC,Zku,b0,a0,c1,c2,c3,c4,l1,l2,wa,wb,wc,wd,we,wf,wm,Zli,h1,h2,h4,hrl]|simp (maxSteps:=9^7) (disch:=first|with_reducible assumption|omega) only [dxB]|(simp only [kdB];split)|(simp only [kvB];split)); try rfl)
end Go.Cv
